import PyProof.Rows.All
import Wide.All
import OpenK.AllK
import Wide.FinOn
import HandS.ForMost
import HandS.Conv
import HandS.List
import HandS.Small
import HandS.Flow
import HandS.TupAny
import HandS.IsInst
import HandS.ForExc
import HandS.More
import HandS.Dict
import HandS.Iter
import HandS.Zip
import KE.GoesEnum
import HandS.Comp
import HandS.Ends
import HandS.WordsExc
import KE.KDictZip
import PyProof.ListNew
import PyProof.EqLayable
import PySem.Challenge.RW_suretexts_k63_whole_times_in_a_round
set_option Elab.async false
set_option linter.all false
set_option maxRecDepth 100000
set_option maxHeartbeats 0
/-! E1: tree values, the small language, its evaluator. -/
namespace Pv
open PySem PySem.Spec PyProof.Rows L2

/-- tree values; root k: the k-th changing object -/
inductive TV where
  | non | bl (b : Bool) | int (i : Int) | str (s : Str) | ty (n : String)
  | lst (xs : List TV) | tup (xs : List TV) | klst (xs : List TV)
  | dct (kvs : List (Key × TV))
  | ins (c : Nat) (fs : List (Str × TV))
  | root (k : Nat)
  deriving Inhabited
inductive RO where
  | lst (xs : List TV) | dct (kvs : List (Key × TV)) | ins (c : Nat) (fs : List (Str × TV))
abbrev Rs := List RO
abbrev Slots := List (Option TV)
inductive Rz (α : Type) where
  | ok (a : α) (R : Rs) | exc (c : Nat) (fs : List (Str × TV)) (R : Rs) | no
@[inline] def Rz.bind {α β : Type} (x : Rz α) (f : α → Rs → Rz β) : Rz β := match x with
  | .ok a R => f a R
  | .exc c fs R => .exc c fs R
  | .no => .no
def Rz.noexc {α : Type} (x : Rz α) : Rz α := match x with
  | .ok a R => .ok a R
  | _ => .no
@[simp] theorem Rz.noexc_ok {α : Type} (a : α) (R : Rs) : (Rz.ok a R).noexc = .ok a R := rfl
@[simp] theorem Rz.bind_ok {α β : Type} (a : α) (R : Rs) (f : α → Rs → Rz β) : (Rz.ok a R).bind f = f a R := rfl
@[simp] theorem Rz.bind_exc {α β : Type} (c : Nat) (fs : List (Str × TV)) (R : Rs) (f : α → Rs → Rz β) : (Rz.exc (α := α) c fs R).bind f = .exc c fs R := rfl
@[simp] theorem Rz.bind_no {α β : Type} (f : α → Rs → Rz β) : (Rz.no (α := α)).bind f = .no := rfl
def ofO {α : Type} (o : Option α) (R : Rs) : Rz α := match o with
  | some a => .ok a R
  | none => .no
@[simp] theorem ofO_some {α : Type} (a : α) (R : Rs) : ofO (some a) R = .ok a R := rfl
@[simp] theorem ofO_none {α : Type} (R : Rs) : ofO (none : Option α) R = .no := rfl
def guardO {α : Type} (b : Bool) (o : Option α) : Option α := match b with
  | true => o
  | false => none
@[simp] theorem guardO_true {α : Type} (o : Option α) : guardO true o = o := rfl
@[simp] theorem guardO_false {α : Type} (o : Option α) : guardO false o = none := rfl
def guardR {α : Type} (b : Bool) (x : Rz α) : Rz α := match b with
  | true => x
  | false => .no
@[simp] theorem guardR_true {α : Type} (x : Rz α) : guardR true x = x := rfl
@[simp] theorem guardR_false {α : Type} (x : Rz α) : guardR false x = .no := rfl

/-! ### reading -/
def asLm (R : Rs) : TV → Option (List TV)
  | .lst xs => some xs
  | .root k => match R[k]? with
    | some (.lst xs) => some xs
    | _ => none
  | _ => none
def asL (R : Rs) (v : TV) : Option (List TV) := match v with
  | .klst xs => some xs
  | v => asLm R v
def asT : TV → Option (List TV)
  | .tup xs => some xs
  | _ => none
def asD (R : Rs) : TV → Option (List (Key × TV))
  | .dct kvs => some kvs
  | .root k => match R[k]? with
    | some (.dct kvs) => some kvs
    | _ => none
  | _ => none
def asI (R : Rs) : TV → Option (Nat × List (Str × TV))
  | .ins c fs => some (c, fs)
  | .root k => match R[k]? with
    | some (.ins c fs) => some (c, fs)
    | _ => none
  | _ => none
def tKey : TV → Option Key
  | .int i => some (.inl i)
  | .str s => some (.inr s)
  | _ => none
def keyT : Key → TV
  | .inl i => .int i
  | .inr s => .str s
/-! the greatest root that a value names, and one more -/
mutual
def hb : TV → Nat
  | .root k => k + 1
  | .lst xs => hbs xs
  | .tup xs => hbs xs
  | .klst xs => hbs xs
  | .dct kvs => hbK kvs
  | .ins _ fs => hbF fs
  | _ => 0
def hbs : List TV → Nat
  | [] => 0
  | x :: xs => max (hb x) (hbs xs)
def hbK : List (Key × TV) → Nat
  | [] => 0
  | (_, x) :: xs => max (hb x) (hbK xs)
def hbF : List (Str × TV) → Nat
  | [] => 0
  | (_, x) :: xs => max (hb x) (hbF xs)
end
def hbO : RO → Nat
  | .lst xs => hbs xs
  | .dct kvs => hbK kvs
  | .ins _ fs => hbF fs
/-- may v be stored in the root k, in a frame whose own roots begin at n0? -/
def mayPut (n0 k : Nat) (v : TV) : Bool := decide (n0 ≤ k) || decide (hb v ≤ k)
def treeOf : RO → TV
  | .lst xs => .lst xs
  | .dct kvs => .dct kvs
  | .ins c fs => .ins c fs
/-- a new object: a root, or a tree -/
def alloc (r : Bool) (o : RO) (R : Rs) : Rz TV := match r with
  | true => .ok (.root R.length) (R ++ [o])
  | false => .ok (treeOf o) R

/-! ### roots replaced -/
mutual
def sub (f : Nat → Option TV) : TV → Option TV
  | .root k => f k
  | .lst xs => (subs f xs).map .lst
  | .tup xs => (subs f xs).map .tup
  | .klst xs => (subs f xs).map .klst
  | .dct kvs => (subK f kvs).map .dct
  | .ins c fs => (subF f fs).map (.ins c)
  | v => some v
def subs (f : Nat → Option TV) : List TV → Option (List TV)
  | [] => some []
  | x :: xs => match sub f x, subs f xs with
    | some y, some ys => some (y :: ys)
    | _, _ => none
def subK (f : Nat → Option TV) : List (Key × TV) → Option (List (Key × TV))
  | [] => some []
  | (k, x) :: xs => match sub f x, subK f xs with
    | some y, some ys => some ((k, y) :: ys)
    | _, _ => none
def subF (f : Nat → Option TV) : List (Str × TV) → Option (List (Str × TV))
  | [] => some []
  | (k, x) :: xs => match sub f x, subF f xs with
    | some y, some ys => some ((k, y) :: ys)
    | _, _ => none
end
def subO (f : Nat → Option TV) : RO → Option RO
  | .lst xs => (subs f xs).map .lst
  | .dct kvs => (subK f kvs).map .dct
  | .ins c fs => (subF f fs).map (.ins c)
/-- the roots from n0 on as trees, n deep; the root bad is none -/
def rootT (R : Rs) (n0 bad : Nat) : Nat → Nat → Option TV
  | 0, k => if k < n0 then some (.root k) else none
  | n + 1, k => if k < n0 then some (.root k) else if k = bad then none else match R[k]? with
    | some o => (subO (rootT R n0 bad n) o).map treeOf
    | none => none
/-- how deep roots lie in roots, at most -/
abbrev deepN : Nat := 4
def settle (n0 : Nat) (v : TV) (R : Rs) : Rz TV := match v with
  | .non => .ok .non (R.take n0)
  | .bl b => .ok (.bl b) (R.take n0)
  | .int i => .ok (.int i) (R.take n0)
  | .str s => .ok (.str s) (R.take n0)
  | v => ofO (sub (rootT R n0 R.length deepN) v) (R.take n0)

/-! ### data, equality, text -/
mutual
def toD : TV → Option PyData
  | .non => some .none
  | .bl b => some (.bool b)
  | .int i => some (.int i)
  | .str s => some (.str s)
  | .lst xs => (toDs xs).map .list
  | .klst xs => (toDs xs).map .list
  | .tup xs => (toDs xs).map .tuple
  | _ => none
def toDs : List TV → Option (List PyData)
  | [] => some []
  | x :: xs => match toD x, toDs xs with
    | some d, some ds => some (d :: ds)
    | _, _ => none
end
def dataOf (R : Rs) (v : TV) : Option PyData := (sub (rootT R 0 R.length deepN) v).bind toD
def scalT : TV → Option PyData
  | .non => some .none
  | .bl b => some (.bool b)
  | .int i => some (.int i)
  | .str s => guardO (decide (s.length ≤ sizeLine)) (some (.str s))
  | _ => none
def eqT (R : Rs) (x y : TV) : Option Bool := match dataOf R x, dataOf R y with
  | some d, some e => guardO (SeqAt.shaped d && SeqAt.shaped e) (some (PyData.eqv d e))
  | _, _ => none
def reprT (R : Rs) (x : TV) : Option Str := match dataOf R x with
  | some d => guardO (d.showable && !d.hasDict && decide (d.depth ≤ 64) && decide (d.shown.length ≤ sizeLine)) (some d.shown)
  | none => none

/-! ### operators by values -/
def isFlat : TV → Bool
  | .non => true | .bl _ => true | .int _ => true | .str _ => true
  | _ => false
def flatEq : TV → TV → Bool
  | .non, .non => true
  | .bl a, .bl b => a == b
  | .bl a, .int b => (if a then 1 else 0) == b
  | .int a, .bl b => a == (if b then 1 else 0)
  | .int a, .int b => a == b
  | .str a, .str b => a == b
  | _, _ => false
def binV (op : Operator) (r : Bool) (x y : TV) (R : Rs) : Rz TV := match op, x, y with
  | .Add, .int i, .int j => .ok (.int (i + j)) R
  | .Add, .str a, .str b => guardR (decide (a.length + b.length ≤ sizeLine)) (.ok (.str (a ++ b)) R)
  | .Add, x, y => match asLm R x, asLm R y with
    | some xs, some ys => guardR (decide (xs.length + ys.length ≤ sizeLine)) (alloc r (.lst (xs ++ ys)) R)
    | _, _ => .no
  | .Sub, .int i, .int j => .ok (.int (i - j)) R
  | .Mult, .int i, .int j => guardR (decide (-(2 ^ 64) < i ∧ i < 2 ^ 64) || decide (-(2 ^ 64) < j ∧ j < 2 ^ 64)) (.ok (.int (i * j)) R)
  | .Mult, x, .int k => match asLm R x with
    | some xs => guardR (decide (-(2 ^ 63) ≤ k ∧ k < 2 ^ 63 ∧ xs.length * k.toNat ≤ sizeLine)) (alloc r (.lst (List.replicate k.toNat xs).flatten) R)
    | none => .no
  | .FloorDiv, .int i, .int j => guardR (decide (0 < j ∧ j < 1073741824)) (.ok (.int (i / j)) R)
  | .Mod, .int i, .int j => guardR (decide (0 < j)) (.ok (.int (i % j)) R)
  | .Pow, .int i, .int j => guardR (decide (0 ≤ j ∧ j ≤ 1000000 ∧ i.natAbs < 2 ^ 64)) (.ok (.int (i ^ j.toNat)) R)
  | _, _, _ => .no
def isNon : TV → Bool
  | .non => true
  | _ => false
def inV (R : Rs) (x y : TV) : Option Bool := match asL R y with
  | some ys => guardO (isFlat x && ys.all isFlat) (some (ys.any fun z => flatEq z x))
  | none => match y with
    | .tup ys => guardO (isFlat x && ys.all isFlat) (some (ys.any fun z => flatEq z x))
    | .str t => match x with
      | .str s => match s.cps.toList with
        | [c] => some (decide (c ∈ t.cps.toList))
        | _ => none
      | _ => none
    | y => match asD R y, tKey x with
      | some kvs, some k => some ((kvs.find? fun kv => decide (kv.1 = k)).isSome)
      | _, _ => none
def cmpV (op : CmpOp) (x y : TV) (R : Rs) : Option Bool := match op with
  | .Eq => eqT R x y
  | .NotEq => (eqT R x y).map (!·)
  | .Lt => match x, y with
    | .int i, .int j => some (decide (i < j))
    | .str a, .str b => some (decide (a.cps.toList < b.cps.toList))
    | _, _ => none
  | .LtE => match x, y with
    | .int i, .int j => some (decide (i ≤ j))
    | .str a, .str b => some (!decide (b.cps.toList < a.cps.toList))
    | _, _ => none
  | .Gt => match x, y with
    | .int i, .int j => some (decide (j < i))
    | .str a, .str b => some (decide (b.cps.toList < a.cps.toList))
    | _, _ => none
  | .GtE => match x, y with
    | .int i, .int j => some (decide (j ≤ i))
    | .str a, .str b => some (!decide (a.cps.toList < b.cps.toList))
    | _, _ => none
  | .Is => match y with
    | .non => some (isNon x)
    | _ => none
  | .IsNot => match y with
    | .non => some (!isNon x)
    | _ => none
  | .In => inV R x y
  | .NotIn => (inV R x y).map (!·)
def truV (R : Rs) : TV → Option Bool
  | .non => some false
  | .bl b => some b
  | .int i => some (i != 0)
  | .str s => guardO (decide (s.length ≤ sizeLine)) (some ((s.length : Int) != 0))
  | .tup xs => some (!xs.isEmpty)
  | v => match asL R v with
    | some xs => some (!xs.isEmpty)
    | none => none
def lenV (R : Rs) : TV → Option Nat
  | .str s => guardO (decide (s.length ≤ sizeLine)) (some s.length)
  | .tup xs => some xs.length
  | v => match asL R v with
    | some xs => some xs.length
    | none => match asD R v with
      | some kvs => some kvs.length
      | none => none
def ixV (R : Rs) (x y : TV) : Option TV := match y with
  | .int i => match x with
    | .str z => guardO (decide (z.length ≤ sizeLine)) ((atI z.cps.toList i).map fun c => .str ⟨#[c]⟩)
    | .tup xs => atI xs i
    | x => match asL R x with
      | some xs => atI xs i
      | none => match asD R x with
        | some kvs => (kvs.find? fun kv => decide (kv.1 = .inl i)).map (·.2)
        | none => none
  | .str s => match asD R x with
    | some kvs => (kvs.find? fun kv => decide (kv.1 = .inr s)).map (·.2)
    | none => none
  | _ => none
def cutA {α : Type} (xs : List α) (lo hi : Option Int) : List α := (xs.drop (HT.sIx xs.length 0 lo)).take (HT.sIx xs.length xs.length hi - HT.sIx xs.length 0 lo)
def slcV (r : Bool) (x : TV) (lo hi : Option Int) (R : Rs) : Rz TV := match x with
  | .str z => guardR (decide (z.length ≤ sizeLine)) (.ok (.str (cutS z lo hi)) R)
  | .tup xs => .ok (.tup (cutA xs lo hi)) R
  | x => match asL R x with
    | some xs => alloc r (.lst (cutA xs lo hi)) R
    | none => .no

/-! ### built-in functions by values -/
inductive Bi where
  | len | abs | max | min | int | repr | divmod | list | tuple | all | any | sum
  deriving DecidableEq
def intsOf : List TV → Option (List Int)
  | [] => some []
  | .int i :: xs => (intsOf xs).map (i :: ·)
  | _ => none
def blsOf : List TV → Option (List Bool)
  | [] => some []
  | .bl i :: xs => (blsOf xs).map (i :: ·)
  | _ => none
def maxI : Int → List Int → Int
  | m, [] => m
  | m, x :: xs => maxI (if x > m then x else m) xs
def minI : Int → List Int → Int
  | m, [] => m
  | m, x :: xs => minI (if x < m then x else m) xs
def intsL (R : Rs) (x : TV) : Option (List Int) := (asL R x).bind intsOf
def biV (b : Bi) (r : Bool) (as : List TV) (R : Rs) : Rz TV := match b, as with
  | .len, [x] => ofO ((lenV R x).map fun n => .int n) R
  | .abs, [.int i] => .ok (.int (if i < 0 then -i else i)) R
  | .max, [.int i, .int j] => .ok (.int (if j > i then j else i)) R
  | .max, [x] => match asT x with
    | some xs => match intsOf xs with
      | some (m :: ms) => .ok (.int (maxI m ms)) R
      | _ => .no
    | none => match intsL R x with
      | some (m :: ms) => .ok (.int (maxI m ms)) R
      | _ => .no
  | .min, [.int i, .int j] => .ok (.int (if j < i then j else i)) R
  | .int, [.int i] => .ok (.int i) R
  | .int, [.bl b] => .ok (.int (if b then 1 else 0)) R
  | .repr, [x] => ofO ((reprT R x).map .str) R
  | .divmod, [.int i, .int j] => guardR (decide (0 < j ∧ j < 1073741824)) (.ok (.tup [.int (i / j), .int (i % j)]) R)
  | .list, [x] => match asT x with
    | some xs => alloc r (.lst xs) R
    | none => match asL R x with
      | some xs => alloc r (.lst xs) R
      | none => .no
  | .tuple, [x] => match asT x with
    | some xs => .ok (.tup xs) R
    | none => match asL R x with
      | some xs => .ok (.tup xs) R
      | none => .no
  | .all, [x] => match (asL R x).bind blsOf with
    | some bs => .ok (.bl (bs.all id)) R
    | none => .no
  | .any, [x] => match (asL R x).bind blsOf with
    | some bs => .ok (.bl (bs.any id)) R
    | none => .no
  | .sum, [x] => match intsL R x with
    | some ns => .ok (.int ns.sum) R
    | none => .no
  | _, _ => .no

/-! ### changes -/
def setR (n0 k : Nat) (o : RO) (put : List TV) (R : Rs) : Option Rs := guardO (put.all (mayPut n0 k)) (some (R.set k o))
def putK (kvs : List (Key × TV)) (k : Key) (v : TV) : List (Key × TV) :=
  if (kvs.any fun kv => decide (kv.1 = k)) = true then kvs.map (fun kv => if kv.1 = k then (kv.1, v) else kv) else kvs ++ [(k, v)]
def putFT (f : Str) (v : TV) : List (Str × TV) → List (Str × TV)
  | [] => [(f, v)]
  | (g, w) :: r => if g = f then (g, v) :: r else (g, w) :: putFT f v r

/-! ### the language -/
/-- what isinstance asks: a built-in type, or an own class -/
inductive Tgn where
  | non | bl | int | str | lst | tup | dct
  deriving DecidableEq
def Tgn.nm : Tgn → String
  | .non => "NoneType"
  | .bl => "bool"
  | .int => "int"
  | .str => "str"
  | .lst => "list"
  | .tup => "tuple"
  | .dct => "dict"
inductive Kd where
  | ty (n : Tgn) | own (c : Nat)
/-- methods of built-in types -/
inductive Mt where
  | append | insert | pop | extend | get | join
  deriving DecidableEq
mutual
inductive Ex where
  | var (i : Nat) | cst (v : TV)
  | bin (op : Operator) (r : Bool) (a b : Ex) | neg (a : Ex)
  | cmp (op : CmpOp) (a b : Ex) | chn (op op' : CmpOp) (a b c : Ex)
  | and (a b : Ex) | or (a b : Ex) | not (a : Ex)
  | ifx (c a b : Ex)
  | call (f : Nat) (as : Exs) | callk (f : Nat) (as : Exs) (ks : Exs) (perm : List Nat)
  | make (c : Nat) (as : Exs)
  | bi (b : Bi) (r : Bool) (as : Exs)
  | isa (a : Ex) (kds : List Kd)
  | mth (m : Mt) (r : Bool) (o : Ex) (as : Exs)
  | own (m : Str) (o : Ex) (as : Exs)
  | fld (o : Ex) (f : Str)
  | sub (o i : Ex)
  | slc (r : Bool) (o : Ex) (lo hi : Ox)
  | lst (r : Bool) (as : Exs) | tup (as : Exs) | dct (r : Bool) | dctp (r : Bool) (kvs : Exs)
  | comp (r : Bool) (elt : Ex) (tg : Tg) (it : It) (ifs : Ex) (own : List Nat)
  | lrng (r : Bool) (a : Ex) | lzip (r : Bool) (a b : Ex)
inductive Exs where
  | nil | cons (e : Ex) (es : Exs)
inductive Ox where
  | none | some (e : Ex)
/-- what is walked -/
inductive It where
  | val (e : Ex) | rng1 (a : Ex) | rng2 (a b : Ex) | enum (a : Ex) | zip (a b : Ex)
/-- targets -/
inductive Tg where
  | name (i : Nat) | tup (ts : Tgs) | sub (o i : Ex) | fld (o : Ex) (f : Str)
inductive Tgs where
  | nil | cons (t : Tg) (ts : Tgs)
end
mutual
inductive Sm where
  | expr (e : Ex) | ret (e : Ex) | retN | pass | brk | cont | stuck
  | asg (t : Tg) (e : Ex) | par (i j : Nat) (a b : Ex) | par3 (i j k : Nat) (a b c : Ex)
  | ifs (c : Ex) (a b : Sms)
  | whl (c : Ex) (b : Sms)
  | for (t : Tg) (it : It) (b : Sms)
inductive Sms where
  | nil | cons (s : Sm) (ss : Sms)
end

mutual
/-- the slots that a target stores to -/
def Tg.ids : Tg → List Nat
  | .name i => [i]
  | .tup ts => Tgs.ids ts
  | .sub _ _ => []
  | .fld _ _ => []
def Tgs.ids : Tgs → List Nat
  | .nil => []
  | .cons t ts => Tg.ids t ++ Tgs.ids ts
end
def Tgs.len : Tgs → Nat
  | .nil => 0
  | .cons _ ts => Tgs.len ts + 1

/-! ### the evaluator -/
inductive Fk where
  | no | fld | prop (g : Nat)
/-- what is known around: calls of defs (the frame's base, the def, the arguments), classes -/
structure Ga where
  call : Nat → Nat → List TV → Rs → Rz TV
  /-- a class's __init__, and whether what it makes is settled -/
  init : Nat → Option (Nat × Bool)
  /-- a method of a class -/
  meth : Nat → Str → Option Nat
  /-- what an attribute of a class's instances is -/
  fldk : Nat → Str → Fk
  /-- is an instance of c an instance of d -/
  subc : Nat → Nat → Bool
/-- whiles at most -/
abbrev W0 : Nat := 1000000
/-- a value's type: a built-in one, an own class -/
def tagOf (R : Rs) : TV → Option (Tgn ⊕ Nat)
  | .non => some (.inl .non)
  | .bl _ => some (.inl .bl)
  | .int _ => some (.inl .int)
  | .str _ => some (.inl .str)
  | .lst _ => some (.inl .lst)
  | .klst _ => some (.inl .lst)
  | .tup _ => some (.inl .tup)
  | .dct _ => some (.inl .dct)
  | .ins c _ => some (.inr c)
  | .root k => match R[k]? with
    | some (.lst _) => some (.inl .lst)
    | some (.dct _) => some (.inl .dct)
    | some (.ins c _) => some (.inr c)
    | none => none
  | .ty _ => none
def kdTag (t : Tgn) : Kd → Bool
  | .ty n => match t, n with
    | .non, .non => true
    | .bl, .bl => true
    | .bl, .int => true
    | .int, .int => true
    | .str, .str => true
    | .lst, .lst => true
    | .tup, .tup => true
    | .dct, .dct => true
    | _, _ => false
  | .own _ => false
def kdOwn (G : Ga) (c : Nat) : Kd → Bool
  | .ty _ => false
  | .own d => G.subc c d
def kdOf (G : Ga) (R : Rs) (x : TV) (k : Kd) : Option Bool := match tagOf R x with
  | some (.inl t) => some (kdTag t k)
  | some (.inr c) => guardO (G.init c).isSome (some (kdOwn G c k))
  | none => none
def isaV (G : Ga) (R : Rs) (x : TV) : List Kd → Option Bool
  | [] => some false
  | k :: ks => match kdOf G R x k, isaV G R x ks with
    | some b, some c => some (b || c)
    | _, _ => none
/-- is the receiver of the method's type -/
def mtOk (m : Mt) (x : TV) (R : Rs) : Bool := match m with
  | .get => (asD R x).isSome
  | .join => match x with
    | .str _ => true
    | _ => false
  | _ => (asLm R x).isSome
def strsOf : List TV → Option (List Str)
  | [] => some []
  | .str i :: xs => (strsOf xs).map (i :: ·)
  | _ => none
def mthV (n0 : Nat) (m : Mt) (x : TV) (as : List TV) (R : Rs) : Rz TV := match m, x, as with
  | .append, .root k, [v] => match R[k]? with
    | some (.lst xs) => guardR (decide (xs.length < sizeLine) && mayPut n0 k v) (.ok .non (R.set k (.lst (xs ++ [v]))))
    | _ => .no
  | .insert, .root k, [.int i, v] => match R[k]? with
    | some (.lst xs) => guardR (decide (xs.length < sizeLine ∧ 0 ≤ i ∧ i < 2 ^ 63) && mayPut n0 k v) (.ok .non (R.set k (.lst (xs.take i.toNat ++ [v] ++ xs.drop i.toNat))))
    | _ => .no
  | .pop, .root k, [] => match R[k]? with
    | some (.lst xs) => match xs[xs.length - 1]? with
      | some v => .ok v (R.set k (.lst xs.dropLast))
      | none => .no
    | _ => .no
  | .pop, .root k, [.int i] => match R[k]? with
    | some (.lst xs) => match guardO (decide (-(2 ^ 63) ≤ i ∧ i < 2 ^ 63)) (ixN xs.length i) with
      | some j => match xs[j]? with
        | some v => .ok v (R.set k (.lst (xs.eraseIdx j)))
        | none => .no
      | none => .no
    | _ => .no
  | .extend, .root k, [v] => match R[k]?, asLm R v with
    | some (.lst xs), some ys => guardR (decide (xs.length + ys.length ≤ sizeLine) && ys.all (mayPut n0 k)) (.ok .non (R.set k (.lst (xs ++ ys))))
    | _, _ => .no
  | .join, .str z, [y] => match (asL R y).bind strsOf with
    | some ys => guardR (decide ((ys.map (·.length)).sum + ys.length * z.length ≤ 16777216)) (.ok (.str (Txt.join z ys)) R)
    | none => .no
  | .get, x, [y] => match asD R x, tKey y with
    | some kvs, some k => .ok (((kvs.find? fun kv => decide (kv.1 = k)).map (·.2)).getD .non) R
    | _, _ => .no
  | .get, x, [y, d] => match asD R x, tKey y with
    | some kvs, some k => .ok (((kvs.find? fun kv => decide (kv.1 = k)).map (·.2)).getD d) R
    | _, _ => .no
  | _, _, _ => .no
/-- o[i] = v -/
def putIx (n0 : Nat) (o i v : TV) (R : Rs) : Option Rs := match o with
  | .root k => match R[k]? with
    | some (.lst xs) => match i with
      | .int i => match ixN xs.length i with
        | some j => setR n0 k (.lst (xs.set j v)) [v] R
        | none => none
      | _ => none
    | some (.dct kvs) => match tKey i with
      | some key => guardO (decide (kvs.length < sizeLine)) (setR n0 k (.dct (putK kvs key v)) [v] R)
      | none => none
    | _ => none
  | _ => none
/-- o.f = v -/
def putFld (G : Ga) (n0 : Nat) (o : TV) (f : Str) (v : TV) (R : Rs) : Option Rs := match o with
  | .root k => match R[k]? with
    | some (.ins c fs) => match G.fldk c f with
      | .fld => guardO (decide (fs.length < 1000)) (setR n0 k (.ins c (putFT f v fs)) [v] R)
      | _ => none
    | _ => none
  | _ => none
def makeV (G : Ga) (n0 : Nat) (c : Nat) (as : List TV) (R : Rs) : Rz TV := match G.init c with
  | some (f, true) => (G.call R.length f (.root R.length :: as) (R ++ [.ins c []])).bind fun v R1 => match v with
    | .non => settle R.length (.root R.length) R1
    | _ => .no
  | some (f, false) => (G.call n0 f (.root R.length :: as) (R ++ [.ins c []])).bind fun v R1 => match v with
    | .non => .ok (.root R.length) R1
    | _ => .no
  | none => .no
def wipeT (σ : Slots) : List Nat → Slots
  | [] => σ
  | v :: vs => (wipeT σ vs).set v none
/-- the i-th item of what is walked -/
inductive Wk where
  | lst (v : TV) | tup (xs : List TV) | str (s : List Nat) | rng (lo : Int) (n : Nat) | enum (v : TV) | enumT (xs : List TV) | zip (a b : TV) | zipT (xs ys : List TV)
/-- none: stuck; some none: the end -/
def Wk.at (w : Wk) (i : Nat) (R : Rs) : Option (Option TV) := match w with
  | .lst v => (asL R v).map (·[i]?)
  | .tup xs => some xs[i]?
  | .str s => some (s[i]?.map fun c => .str ⟨#[c]⟩)
  | .rng lo n => some (if i < n then some (.int (lo + i)) else none)
  | .enum v => (asL R v).map fun xs => xs[i]?.map fun x => .tup [.int i, x]
  | .enumT xs => some (xs[i]?.map fun x => .tup [.int i, x])
  | .zip a b => match asL R a, asL R b with
    | some xs, some ys => some (match xs[i]?, ys[i]? with
      | some x, some y => some (.tup [x, y])
      | _, _ => none)
    | _, _ => none
  | .zipT xs ys => some (match xs[i]?, ys[i]? with
    | some x, some y => some (.tup [x, y])
    | _, _ => none)
inductive Fl where
  | nx | rt (v : TV) | bk | ct
def pairsOf : List TV → Option (List (Key × TV))
  | [] => some []
  | k :: v :: r => match tKey k, pairsOf r with
    | some k, some ps => some ((k, v) :: ps)
    | _, _ => none
  | _ => none
def mergeT (kvs more : List (Key × TV)) : List (Key × TV) := more.foldl (fun acc kv => putK acc kv.1 kv.2) kvs
/-- values put in another sequence -/
def permL {α : Type} (xs : List α) : List Nat → Option (List α)
  | [] => some []
  | i :: is => match xs[i]?, permL xs is with
    | some v, some r => some (v :: r)
    | _, _ => none
abbrev permT (vs : List TV) (perm : List Nat) : Option (List TV) := permL vs perm
/-- turns of a loop: step i -/
def loopN (body : Nat → Slots → Rs → Rz (Option (Fl × Slots))) : Nat → Nat → Slots → Rs → Rz (Fl × Slots)
  | 0, _, _, _ => .no
  | n + 1, i, σ, R => (body i σ R).bind fun r R1 => match r with
    | none => .ok (.nx, σ) R1
    | some (.nx, σ1) => loopN body n (i + 1) σ1 R1
    | some (.ct, σ1) => loopN body n (i + 1) σ1 R1
    | some (.bk, σ1) => .ok (.nx, σ1) R1
    | some (.rt v, σ1) => .ok (.rt v, σ1) R1
def compN (turn : Nat → Rs → Rz (Option (Option TV))) : Nat → Nat → List TV → Rs → Rz (List TV)
  | 0, _, _, _ => .no
  | n + 1, i, acc, R => (turn i R).bind fun r R1 => match r with
    | none => .ok acc R1
    | some none => compN turn n (i + 1) acc R1
    | some (some v) => guardR (decide (acc.length < sizeLine)) (compN turn n (i + 1) (acc ++ [v]) R1)
mutual
def evE (G : Ga) (n0 : Nat) : Ex → Slots → Rs → Rz TV
  | .var i, σ, R => match σ[i]? with
    | some (some v) => .ok v R
    | _ => .no
  | .cst v, _, R => .ok v R
  | .bin op r a b, σ, R => (evE G n0 a σ R).bind fun x R1 => (evE G n0 b σ R1).bind fun y R2 => binV op r x y R2
  | .neg a, σ, R => (evE G n0 a σ R).bind fun x R1 => match x with
    | .int i => .ok (.int (-i)) R1
    | _ => .no
  | .cmp op a b, σ, R => (evE G n0 a σ R).bind fun x R1 => (evE G n0 b σ R1).bind fun y R2 => ofO ((cmpV op x y R2).map .bl) R2
  | .chn op op' a b c, σ, R => (evE G n0 a σ R).bind fun x R1 => (evE G n0 b σ R1).bind fun y R2 => match cmpV op x y R2 with
    | some true => (evE G n0 c σ R2).bind fun z R3 => ofO ((cmpV op' y z R3).map .bl) R3
    | some false => .ok (.bl false) R2
    | none => .no
  | .and a b, σ, R => (evE G n0 a σ R).bind fun x R1 => match truV R1 x with
    | some true => evE G n0 b σ R1
    | some false => .ok x R1
    | none => .no
  | .or a b, σ, R => (evE G n0 a σ R).bind fun x R1 => match truV R1 x with
    | some false => evE G n0 b σ R1
    | some true => .ok x R1
    | none => .no
  | .not a, σ, R => (evE G n0 a σ R).bind fun x R1 => ofO ((truV R1 x).map fun b => .bl (!b)) R1
  | .ifx c a b, σ, R => (evE G n0 c σ R).bind fun x R1 => match truV R1 x with
    | some true => evE G n0 a σ R1
    | some false => evE G n0 b σ R1
    | none => .no
  | .call f as, σ, R => (evs G n0 as σ R).bind fun vs R1 => G.call n0 f vs R1
  | .callk f as ks perm, σ, R => (evs G n0 as σ R).bind fun vs R1 => (evs G n0 ks σ R1).bind fun zs R2 => match permT (vs ++ zs) perm with
    | some us => G.call n0 f us R2
    | none => .no
  | .make c as, σ, R => (evs G n0 as σ R).bind fun vs R1 => makeV G n0 c vs R1
  | .bi b r as, σ, R => (evs G n0 as σ R).bind fun vs R1 => biV b r vs R1
  | .isa a ks, σ, R => (evE G n0 a σ R).bind fun x R1 => ofO ((isaV G R1 x ks).map .bl) R1
  | .mth m _ o as, σ, R => (evE G n0 o σ R).bind fun x R1 => guardR (mtOk m x R1) ((evs G n0 as σ R1).bind fun vs R2 => mthV n0 m x vs R2)
  | .own m o as, σ, R => (evE G n0 o σ R).bind fun x R1 => match asI R1 x with
    | some (c, fs) => match fs.lookup m, G.meth c m with
      | none, some f => (evs G n0 as σ R1).bind fun vs R2 => G.call n0 f (x :: vs) R2
      | _, _ => .no
    | none => .no
  | .fld o f, σ, R => (evE G n0 o σ R).bind fun x R1 => match asI R1 x with
    | some (c, fs) => match G.fldk c f with
      | .prop g => G.call n0 g [x] R1
      | .fld => ofO (fs.lookup f) R1
      | .no => .no
    | none => .no
  | .sub o i, σ, R => (evE G n0 o σ R).bind fun x R1 => (evE G n0 i σ R1).bind fun y R2 => ofO (ixV R2 x y) R2
  | .slc r o lo hi, σ, R => (evE G n0 o σ R).bind fun x R1 => (evO G n0 lo σ R1).bind fun l R2 => (evO G n0 hi σ R2).bind fun h R3 => slcV r x l h R3
  | .lst r as, σ, R => (evs G n0 as σ R).bind fun vs R1 => guardR (decide (vs.length ≤ sizeLine)) (alloc r (.lst vs) R1)
  | .tup as, σ, R => (evs G n0 as σ R).bind fun vs R1 => guardR (decide (vs.length ≤ sizeLine)) (.ok (.tup vs) R1)
  | .dct r, _, R => alloc r (.dct []) R
  | .dctp r kvs, σ, R => (evs G n0 kvs σ R).noexc.bind fun vs R1 => match pairsOf vs with
    | some ps => guardR (decide (ps.length ≤ 15)) (alloc r (.dct (mergeT [] ps)) R1)
    | none => .no
  | .lzip r a b, σ, R => (evE G n0 a σ R).bind fun x R1 => (evE G n0 b σ R1).bind fun y R2 => match asL R2 x, asL R2 y with
    | some xs, some ys => alloc r (.lst (List.zipWith (fun x y => TV.tup [x, y]) xs ys)) R2
    | _, _ => .no
  | .lrng r a, σ, R => (evE G n0 a σ R).bind fun x R1 => match x with
    | .int n => guardR (decide (0 ≤ n ∧ n < 1000000)) (alloc r (.lst ((List.range n.toNat).map fun (i : Nat) => TV.int (i : Int))) R1)
    | _ => .no
  | .comp r elt tg it ifs own, σ, R => (evI G n0 it σ R).bind fun w R1 =>
      (compN (fun i R => match w.at i R with
        | none => .no
        | some none => .ok none R
        | some (some v) => (evT G n0 tg v (wipeT σ own) R).bind fun σ1 R1 => (evE G n0 ifs σ1 R1).bind fun c R2 => match truV R2 c with
          | some true => (evE G n0 elt σ1 R2).bind fun x R3 => .ok (some (some x)) R3
          | some false => .ok (some none) R2
          | none => .no) W0 0 [] R1).noexc.bind fun xs R2 => alloc r (.lst xs) R2
def evs (G : Ga) (n0 : Nat) : Exs → Slots → Rs → Rz (List TV)
  | .nil, _, R => .ok [] R
  | .cons e es, σ, R => (evE G n0 e σ R).bind fun x R1 => (evs G n0 es σ R1).bind fun xs R2 => .ok (x :: xs) R2
def evO (G : Ga) (n0 : Nat) : Ox → Slots → Rs → Rz (Option Int)
  | .none, _, R => .ok none R
  | .some e, σ, R => (evE G n0 e σ R).bind fun x R1 => match x with
    | .int i => .ok (some i) R1
    | _ => .no
def evI (G : Ga) (n0 : Nat) : It → Slots → Rs → Rz Wk
  | .val e, σ, R => (evE G n0 e σ R).bind fun x R1 => match x with
    | .tup xs => .ok (.tup xs) R1
    | .str s => .ok (.str s.cps.toList) R1
    | x => match asL R1 x with
      | some _ => .ok (.lst x) R1
      | none => .no
  | .rng1 a, σ, R => (evE G n0 a σ R).bind fun x R1 => match x with
    | .int n => guardR (decide (-(2 ^ 62) ≤ n ∧ n < 2 ^ 62)) (.ok (.rng 0 n.toNat) R1)
    | _ => .no
  | .rng2 a b, σ, R => (evE G n0 a σ R).bind fun x R1 => (evE G n0 b σ R1).bind fun y R2 => match x, y with
    | .int i, .int j => guardR (decide (-(2 ^ 62) ≤ i ∧ i < 2 ^ 62 ∧ -(2 ^ 62) ≤ j ∧ j < 2 ^ 62)) (.ok (.rng i (j - i).toNat) R2)
    | _, _ => .no
  | .enum a, σ, R => (evE G n0 a σ R).bind fun x R1 => match asT x with
    | some xs => .ok (.enumT xs) R1
    | none => match asL R1 x with
      | some _ => .ok (.enum x) R1
      | none => .no
  | .zip a b, σ, R => (evE G n0 a σ R).bind fun x R1 => (evE G n0 b σ R1).bind fun y R2 => match asT x, asT y with
    | some xs, some ys => .ok (.zipT xs ys) R2
    | _, _ => match asL R2 x, asL R2 y with
      | some _, some _ => .ok (.zip x y) R2
      | _, _ => .no
def evT (G : Ga) (n0 : Nat) : Tg → TV → Slots → Rs → Rz Slots
  | .name i, v, σ, R => .ok (σ.set i (some v)) R
  | .tup ts, v, σ, R => match v with
    | .tup xs => guardR (decide (xs.length = ts.len)) (evTs G n0 ts xs σ R)
    | _ => .no
  | .sub o i, v, σ, R => (evE G n0 o σ R).bind fun x R1 => (evE G n0 i σ R1).bind fun y R2 => match putIx n0 x y v R2 with
    | some R3 => .ok σ R3
    | none => .no
  | .fld o f, v, σ, R => (evE G n0 o σ R).bind fun x R1 => match putFld G n0 x f v R1 with
    | some R2 => .ok σ R2
    | none => .no
def evTs (G : Ga) (n0 : Nat) : Tgs → List TV → Slots → Rs → Rz Slots
  | .nil, [], σ, R => .ok σ R
  | .cons t ts, v :: vs, σ, R => (evT G n0 t v σ R).bind fun σ1 R1 => evTs G n0 ts vs σ1 R1
  | _, _, _, _ => .no
end
mutual
def evS (G : Ga) (n0 : Nat) : Sm → Slots → Rs → Rz (Fl × Slots)
  | .expr e, σ, R => (evE G n0 e σ R).bind fun _ R1 => .ok (.nx, σ) R1
  | .ret e, σ, R => (evE G n0 e σ R).bind fun v R1 => .ok (.rt v, σ) R1
  | .retN, σ, R => .ok (.rt .non, σ) R
  | .pass, σ, R => .ok (.nx, σ) R
  | .stuck, _, _ => .no
  | .brk, σ, R => .ok (.bk, σ) R
  | .cont, σ, R => .ok (.ct, σ) R
  | .asg t e, σ, R => (evE G n0 e σ R).bind fun v R1 => (evT G n0 t v σ R1).bind fun σ1 R2 => .ok (.nx, σ1) R2
  | .par i j a b, σ, R => (evE G n0 a σ R).bind fun x R1 => (evE G n0 b σ R1).bind fun y R2 => .ok (.nx, (σ.set i (some x)).set j (some y)) R2
  | .par3 i j k a b c, σ, R => (evE G n0 a σ R).bind fun x R1 => (evE G n0 b σ R1).bind fun y R2 => (evE G n0 c σ R2).bind fun z R3 =>
      .ok (.nx, ((σ.set i (some x)).set j (some y)).set k (some z)) R3
  | .ifs c a b, σ, R => (evE G n0 c σ R).bind fun x R1 => match truV R1 x with
    | some true => evSs G n0 a σ R1
    | some false => evSs G n0 b σ R1
    | none => .no
  | .whl c b, σ, R => loopN (fun _ σ R => (evE G n0 c σ R).bind fun x R1 => match truV R1 x with
      | some true => (evSs G n0 b σ R1).bind fun r R2 => .ok (some r) R2
      | some false => .ok none R1
      | none => .no) W0 0 σ R
  | .for t it b, σ, R => (evI G n0 it σ R).bind fun w R1 => loopN (fun i σ R => match w.at i R with
      | none => .no
      | some none => .ok none R
      | some (some v) => (evT G n0 t v σ R).bind fun σ1 R1 => (evSs G n0 b σ1 R1).bind fun r R2 => .ok (some r) R2) W0 0 σ R1
def evSs (G : Ga) (n0 : Nat) : Sms → Slots → Rs → Rz (Fl × Slots)
  | .nil, σ, R => .ok (.nx, σ) R
  | .cons s ss, σ, R => (evS G n0 s σ R).bind fun r R1 => match r with
    | (.nx, σ1) => evSs G n0 ss σ1 R1
    | r => .ok r R1
end

/-! ### defs -/
/-- how a def's call ends: settled to trees, its own list handed on as the caller's root, all kept -/
inductive Endk where
  | tree | root | keep
  deriving DecidableEq
structure Fn where
  np : Nat
  slots : Nat
  body : Sms
  endk : Endk
def handOn (n0 : Nat) (v : TV) (R : Rs) : Rz TV := match v with
  | .root k => if k < n0 then .ok (.root k) (R.take n0) else match R[k]? with
    | some o => match subO (rootT R n0 k deepN) o with
      | some o' => .ok (.root n0) (R.take n0 ++ [o'])
      | none => .no
    | none => .no
  | v => settle n0 v R
def endFn (k : Endk) (n0 : Nat) (v : TV) (R : Rs) : Rz TV := match k with
  | .tree => settle n0 v R
  | .root => handOn n0 v R
  | .keep => .ok v R
def retOf : Fl × Slots → Option TV
  | (.nx, _) => some .non
  | (.rt v, _) => some v
  | _ => none
def runFn (G : Ga) (F : Fn) (n0 : Nat) (vs : List TV) (R : Rs) : Rz TV :=
  let b := match F.endk with
    | .keep => n0
    | _ => R.length
  guardR (decide (vs.length = F.np)) <| (evSs G b F.body (vs.map some ++ List.replicate (F.slots - vs.length) none) R).bind fun r R1 => match retOf r with
    | some v => endFn F.endk R.length v R1
    | none => .no
/-- a program: its defs, its classes -/
structure Pg where
  fns : Nat → Option Fn
  init : Nat → Option (Nat × Bool)
  meth : Nat → Str → Option Nat
  fldk : Nat → Str → Fk
  subc : Nat → Nat → Bool
/-- calls, d deep -/
def callD (P : Pg) : Nat → Nat → Nat → List TV → Rs → Rz TV
  | 0, _, _, _, _ => .no
  | d + 1, n0, f, vs, R => match P.fns f with
    | some F => runFn ⟨callD P d, P.init, P.meth, P.fldk, P.subc⟩ F n0 vs R
    | none => .no
end Pv

/-! E2: how tree values stand in the abstract heap. -/
namespace Pv
open PySem PySem.Spec PyProof.Rows L2

/-- the addresses of the first n roots -/
def MM (α : Nat → Addr) (n : Nat) (a : Addr) : Prop := ∃ k, k < n ∧ α k = a
abbrev KL (K : PySem.W.Frag) (a : Addr) (xs : List V) : Prop :=
  ∃ (o : Obj) (its : Array Value) (n : Nat), K.lookup a = some o ∧ o.cls = .type "list" ∧ o.dict = none ∧ o.data = .seq its n ∧ its.size ≤ sizeLine ∧ Vals xs its.toList
abbrev KT (K : PySem.W.Frag) (a : Addr) (xs : List V) : Prop :=
  ∃ (o : Obj) (its : Array Value) (n : Nat), K.lookup a = some o ∧ o.cls = .type "tuple" ∧ o.data = .seq its n ∧ its.size ≤ sizeLine ∧ Vals xs its.toList
/-- what stays: the written part, the classes' addresses -/
structure Kc where
  K : PySem.W.Frag
  cl : Nat → Addr
  /-- tracked objects that no value names (a list that a comprehension fills) -/
  N : Addr → Prop := fun _ => False
abbrev Kc.w (c : Kc) (N : Addr → Prop) : Kc := { c with N := N }
/-- what no tree stands at -/
def Bad (c : Kc) (α : Nat → Addr) (n : Nat) (a : Addr) : Prop := MM α n a ∨ c.N a
mutual
inductive Rep (c : Kc) (α : Nat → Addr) (n : Nat) (H : Hp) : TV → V → Prop
  | non : Rep c α n H .non .non
  | bl (b : Bool) : Rep c α n H (.bl b) (.bl b)
  | int (i : Int) : Rep c α n H (.int i) (.int i)
  | str (s : Str) : Rep c α n H (.str s) (.str s)
  | ty (s : String) : Rep c α n H (.ty s) (.ty s)
  | lst {a : Addr} {xs : List TV} {vs : List V} : H a = some (.lst vs) → ¬ Bad c α n a → Reps c α n H xs vs → Rep c α n H (.lst xs) (.ref a)
  | klstF {a : Addr} {o : Obj} {xs : List TV} {vs : List V} : H a = some (.frz o (.lst vs)) → ¬ Bad c α n a → Reps c α n H xs vs → Rep c α n H (.klst xs) (.ref a)
  | klstK {a : Addr} {xs : List TV} {vs : List V} : KL c.K a vs → Reps c α n H xs vs → Rep c α n H (.klst xs) (.ref a)
  | tup {a : Addr} {xs : List TV} {vs : List V} : H a = some (.tup vs) → ¬ Bad c α n a → Reps c α n H xs vs → Rep c α n H (.tup xs) (.ref a)
  | tupK {a : Addr} {xs : List TV} {vs : List V} : KT c.K a vs → Reps c α n H xs vs → Rep c α n H (.tup xs) (.ref a)
  | dct {a : Addr} {xs : List (Key × TV)} {vs : List (Key × V)} : H a = some (.dK vs) → ¬ Bad c α n a → RepK c α n H xs vs → Rep c α n H (.dct xs) (.ref a)
  | ins {a dx : Addr} {k : Nat} {xs : List (Str × TV)} {vs : List (Str × V)} : H a = some (.ins (c.cl k) dx vs) → ¬ Bad c α n a → RepF c α n H xs vs → Rep c α n H (.ins k xs) (.ref a)
  | root {k : Nat} : k < n → Rep c α n H (.root k) (.ref (α k))
inductive Reps (c : Kc) (α : Nat → Addr) (n : Nat) (H : Hp) : List TV → List V → Prop
  | nil : Reps c α n H [] []
  | cons {x : TV} {xs : List TV} {v : V} {vs : List V} : Rep c α n H x v → Reps c α n H xs vs → Reps c α n H (x :: xs) (v :: vs)
inductive RepK (c : Kc) (α : Nat → Addr) (n : Nat) (H : Hp) : List (Key × TV) → List (Key × V) → Prop
  | nil : RepK c α n H [] []
  | cons {k : Key} {x : TV} {xs : List (Key × TV)} {v : V} {vs : List (Key × V)} : Rep c α n H x v → RepK c α n H xs vs → RepK c α n H ((k, x) :: xs) ((k, v) :: vs)
inductive RepF (c : Kc) (α : Nat → Addr) (n : Nat) (H : Hp) : List (Str × TV) → List (Str × V) → Prop
  | nil : RepF c α n H [] []
  | cons {k : Str} {x : TV} {xs : List (Str × TV)} {v : V} {vs : List (Str × V)} : Rep c α n H x v → RepF c α n H xs vs → RepF c α n H ((k, x) :: xs) ((k, v) :: vs)
end
def RepO (c : Kc) (α : Nat → Addr) (n : Nat) (H : Hp) (o : RO) (a : Addr) : Prop := match o with
  | .lst xs => ∃ vs, H a = some (.lst vs) ∧ Reps c α n H xs vs
  | .dct kvs => ∃ vs, H a = some (.dK vs) ∧ RepK c α n H kvs vs
  | .ins k fs => ∃ dx vs, H a = some (.ins (c.cl k) dx vs) ∧ RepF c α n H fs vs
structure SR (c : Kc) (α : Nat → Addr) (R : Rs) (H : Hp) : Prop where
  gh : ∀ a, c.N a → H a ≠ none
  ng : ∀ k, k < R.length → ¬ c.N (α k)
  obj : ∀ k o, R[k]? = some o → RepO c α R.length H o (α k)
  inj : ∀ j k, j < R.length → k < R.length → α j = α k → j = k
/-- the first m roots name none but themselves -/
def Cl (m : Nat) (R : Rs) : Prop := ∀ k o, k < m → R[k]? = some o → hbO o ≤ m
structure Later (n0 : Nat) (α : Nat → Addr) (R : Rs) (H : Hp) (α' : Nat → Addr) (R' : Rs) (H' : Hp) : Prop where
  len : R.length ≤ R'.length
  al : ∀ k, k < R.length → α' k = α k
  keep : ∀ a o, H a = some o → ¬ MM α R.length a → H' a = some o
  trk : ∀ a, H' a = none → H a = none
  mm : ∀ a, MM α' R'.length a → MM α R.length a ∨ H a = none
  cl : ∀ m, m ≤ n0 → Cl m R → Cl m R'
section
variable {c : Kc} {n0 n n' : Nat} {α α' α'' : Nat → Addr} {R R' R'' : Rs} {H H' H'' : Hp}
theorem Later.refl : Later n0 α R H α R H := ⟨Nat.le_refl _, fun _ _ => rfl, fun _ _ h _ => h, fun _ h => h, fun _ h => .inl h, fun _ _ h => h⟩
theorem Later.trans (a : Later n0 α R H α' R' H') (b : Later n0 α' R' H' α'' R'' H'') : Later n0 α R H α'' R'' H'' where
  len := Nat.le_trans a.len b.len
  al := fun k hk => (b.al k (Nat.lt_of_lt_of_le hk a.len)).trans (a.al k hk)
  keep := fun x o h1 h2 => b.keep x o (a.keep x o h1 h2) fun h3 => (a.mm x h3).elim h2 fun h4 => by rw [h1] at h4; cases h4
  trk := fun x h => a.trk x (b.trk x h)
  mm := fun x h => (b.mm x h).elim (a.mm x) fun h2 => .inr (a.trk x h2)
  cl := fun m hm h => b.cl m hm (a.cl m hm h)
theorem Later.weak {m : Nat} (a : Later n0 α R H α' R' H') (h : m ≤ n0) : Later m α R H α' R' H' := ⟨a.len, a.al, a.keep, a.trk, a.mm, fun k hk => a.cl k (Nat.le_trans hk h)⟩
theorem Later.nMM (L : Later n0 α R H α' R' H') {a : Addr} {o : HO} (h : H a = some o) (hm : ¬ MM α R.length a) : ¬ MM α' R'.length a := fun h3 => (L.mm a h3).elim hm fun h4 => by rw [h] at h4; cases h4
theorem Later.nBad (L : Later n0 α R H α' R' H') {a : Addr} {o : HO} (h : H a = some o) (hm : ¬ Bad c α R.length a) : ¬ Bad c α' R'.length a := fun h3 => h3.elim (L.nMM h fun z => hm (.inl z)) fun z => hm (.inr z)
mutual
theorem Rep.later (L : Later n0 α R H α' R' H') : ∀ {x : TV} {v : V}, Rep c α R.length H x v → Rep c α' R'.length H' x v
  | _, _, .non => .non
  | _, _, .bl b => .bl b
  | _, _, .int i => .int i
  | _, _, .str s => .str s
  | _, _, .ty s => .ty s
  | _, _, .lst h m r => .lst (L.keep _ _ h fun z => m (.inl z)) (L.nBad h m) (Reps.later L r)
  | _, _, .klstF h m r => .klstF (L.keep _ _ h fun z => m (.inl z)) (L.nBad h m) (Reps.later L r)
  | _, _, .klstK h r => .klstK h (Reps.later L r)
  | _, _, .tup h m r => .tup (L.keep _ _ h fun z => m (.inl z)) (L.nBad h m) (Reps.later L r)
  | _, _, .tupK h r => .tupK h (Reps.later L r)
  | _, _, .dct h m r => .dct (L.keep _ _ h fun z => m (.inl z)) (L.nBad h m) (RepK.later L r)
  | _, _, .ins h m r => .ins (L.keep _ _ h fun z => m (.inl z)) (L.nBad h m) (RepF.later L r)
  | _, _, .root (k := k) h => by rw [← L.al k h]; exact .root (Nat.lt_of_lt_of_le h L.len)
theorem Reps.later (L : Later n0 α R H α' R' H') : ∀ {x : List TV} {v : List V}, Reps c α R.length H x v → Reps c α' R'.length H' x v
  | _, _, .nil => .nil
  | _, _, .cons a b => .cons (Rep.later L a) (Reps.later L b)
theorem RepK.later (L : Later n0 α R H α' R' H') : ∀ {x : List (Key × TV)} {v : List (Key × V)}, RepK c α R.length H x v → RepK c α' R'.length H' x v
  | _, _, .nil => .nil
  | _, _, .cons a b => .cons (Rep.later L a) (RepK.later L b)
theorem RepF.later (L : Later n0 α R H α' R' H') : ∀ {x : List (Str × TV)} {v : List (Str × V)}, RepF c α R.length H x v → RepF c α' R'.length H' x v
  | _, _, .nil => .nil
  | _, _, .cons a b => .cons (Rep.later L a) (RepF.later L b)
end
theorem Reps.length : ∀ {xs : List TV} {vs : List V}, Reps c α n H xs vs → xs.length = vs.length
  | _, _, .nil => rfl
  | _, _, .cons _ b => congrArg (· + 1) (Reps.length b)
theorem Reps.get : ∀ {xs : List TV} {vs : List V} {i : Nat} {x : TV}, Reps c α n H xs vs → xs[i]? = some x → ∃ v, vs[i]? = some v ∧ Rep c α n H x v
  | _, _, _, _, .nil, e => by simp at e
  | _, _, 0, _, .cons r _, e => by simp at e; subst e; exact ⟨_, rfl, r⟩
  | _, _, i + 1, x, .cons _ t, e => by
    obtain ⟨v, h1, h2⟩ := Reps.get (i := i) (x := x) t (by simpa using e)
    exact ⟨v, by simpa using h1, h2⟩
theorem Reps.append : ∀ {xs ys : List TV} {us ws : List V}, Reps c α n H xs us → Reps c α n H ys ws → Reps c α n H (xs ++ ys) (us ++ ws)
  | _, _, _, _, .nil, s => s
  | _, _, _, _, .cons r t, s => .cons r (Reps.append t s)
theorem Reps.take : ∀ {xs : List TV} {us : List V} (m : Nat), Reps c α n H xs us → Reps c α n H (xs.take m) (us.take m)
  | _, _, 0, _ => by simpa using Reps.nil
  | _, _, _ + 1, .nil => .nil
  | _, _, m + 1, .cons r t => .cons r (Reps.take m t)
theorem Reps.drop : ∀ {xs : List TV} {us : List V} (m : Nat), Reps c α n H xs us → Reps c α n H (xs.drop m) (us.drop m)
  | _, _, 0, r => r
  | _, _, _ + 1, .nil => .nil
  | _, _, m + 1, .cons _ t => Reps.drop m t
theorem Reps.set {x : TV} {v : V} (r : Rep c α n H x v) : ∀ {xs : List TV} {us : List V} (i : Nat), Reps c α n H xs us → Reps c α n H (xs.set i x) (us.set i v)
  | _, _, _, .nil => .nil
  | _, _, 0, .cons _ t => .cons r t
  | _, _, i + 1, .cons q t => .cons q (Reps.set r i t)
theorem Reps.eraseIdx : ∀ {xs : List TV} {us : List V} (i : Nat), Reps c α n H xs us → Reps c α n H (xs.eraseIdx i) (us.eraseIdx i)
  | _, _, _, .nil => .nil
  | _, _, 0, .cons _ t => t
  | _, _, i + 1, .cons q t => .cons q (Reps.eraseIdx i t)
theorem Reps.dropLast {xs : List TV} {us : List V} (r : Reps c α n H xs us) : Reps c α n H xs.dropLast us.dropLast := by
  rw [List.dropLast_eq_take, List.dropLast_eq_take, r.length]
  exact r.take _
theorem Reps.one {x : TV} {vs : List V} (r : Reps c α n H [x] vs) : ∃ v, vs = [v] ∧ Rep c α n H x v := by
  cases r with
  | cons a b => cases b; exact ⟨_, rfl, a⟩
theorem Reps.two {x y : TV} {vs : List V} (r : Reps c α n H [x, y] vs) : ∃ v u, vs = [v, u] ∧ Rep c α n H x v ∧ Rep c α n H y u := by
  cases r with
  | cons a b => obtain ⟨u, rfl, q⟩ := b.one; exact ⟨_, _, rfl, a, q⟩
theorem Reps.rep {xs : List TV} {us : List V} (r : Reps c α n H xs us) : ∀ k : Nat, Reps c α n H (List.replicate k xs).flatten (List.replicate k us).flatten
  | 0 => .nil
  | k + 1 => by
    rw [List.replicate_succ, List.replicate_succ, List.flatten_cons, List.flatten_cons]
    exact r.append (Reps.rep r k)
theorem RepK.length : ∀ {xs : List (Key × TV)} {vs : List (Key × V)}, RepK c α n H xs vs → xs.length = vs.length
  | _, _, .nil => rfl
  | _, _, .cons _ b => congrArg (· + 1) (RepK.length b)
theorem RepF.length : ∀ {xs : List (Str × TV)} {vs : List (Str × V)}, RepF c α n H xs vs → xs.length = vs.length
  | _, _, .nil => rfl
  | _, _, .cons _ b => congrArg (· + 1) (RepF.length b)
theorem RepF.look {f : Str} : ∀ {xs : List (Str × TV)} {vs : List (Str × V)}, RepF c α n H xs vs → (∀ x, xs.lookup f = some x → ∃ v, vs.lookup f = some v ∧ Rep c α n H x v) ∧ (xs.lookup f = none → vs.lookup f = none)
  | _, _, .nil => ⟨fun x h => (nomatch h), fun _ => rfl⟩
  | _, _, .cons (k := k) (x := x) (v := v) a b => by
    obtain ⟨h1, h2⟩ := RepF.look (f := f) b
    rw [List.lookup_cons, List.lookup_cons]
    cases f == k with
    | true => exact ⟨fun y e => ⟨v, rfl, by cases e; exact a⟩, fun e => nomatch e⟩
    | false => exact ⟨h1, h2⟩
theorem RepF.put {f : Str} {x : TV} {v : V} (r : Rep c α n H x v) : ∀ {xs : List (Str × TV)} {vs : List (Str × V)}, RepF c α n H xs vs → RepF c α n H (putFT f x xs) (putF f v vs)
  | _, _, .nil => .cons r .nil
  | _, _, .cons (k := k) a b => by
    unfold putFT putF
    by_cases h : k = f
    · rw [if_pos h, if_pos h]; exact .cons r b
    · rw [if_neg h, if_neg h]; exact .cons a (RepF.put r b)
theorem RepK.find {k : Key} : ∀ {xs : List (Key × TV)} {vs : List (Key × V)}, RepK c α n H xs vs →
    (∀ x, (xs.find? fun kv => decide (kv.1 = k)).map (·.2) = some x → ∃ v, valV vs k = some v ∧ Rep c α n H x v) ∧ ((xs.find? fun kv => decide (kv.1 = k)).map (·.2) = none → valV vs k = none)
  | _, _, .nil => ⟨fun x h => (nomatch h), fun _ => rfl⟩
  | _, _, .cons (k := k') (x := x) (v := v) (xs := xs) (vs := vs) a b => by
    obtain ⟨h1, h2⟩ := RepK.find (k := k) b
    rw [List.find?_cons]
    by_cases h : k' = k
    · simp only [h, decide_true]
      exact ⟨fun y e => ⟨v, valV_pos rfl, by cases e; exact a⟩, fun e => nomatch e⟩
    · simp only [h, decide_false]
      rw [valV_neg (p := (k', v)) h]
      exact ⟨h1, h2⟩
theorem RepK.any {k : Key} : ∀ {xs : List (Key × TV)} {vs : List (Key × V)}, RepK c α n H xs vs → (xs.any fun kv => decide (kv.1 = k)) = (vs.any fun kv => decide (kv.1 = k))
  | _, _, .nil => rfl
  | _, _, .cons a b => by rw [List.any_cons, List.any_cons, RepK.any b]
theorem RepK.map {k : Key} {x : TV} {v : V} (r : Rep c α n H x v) : ∀ {xs : List (Key × TV)} {vs : List (Key × V)}, RepK c α n H xs vs →
    RepK c α n H (xs.map fun kv => if kv.1 = k then (kv.1, x) else kv) (vs.map fun kv => if kv.1 = k then (kv.1, v) else kv)
  | _, _, .nil => .nil
  | _, _, .cons (k := k') a b => by
    rw [List.map_cons, List.map_cons]
    by_cases h : k' = k
    · rw [if_pos h, if_pos h]; exact .cons r (RepK.map r b)
    · rw [if_neg h, if_neg h]; exact .cons a (RepK.map r b)
theorem RepK.snoc {k : Key} {x : TV} {v : V} (r : Rep c α n H x v) : ∀ {xs : List (Key × TV)} {vs : List (Key × V)}, RepK c α n H xs vs → RepK c α n H (xs ++ [(k, x)]) (vs ++ [(k, v)])
  | _, _, .nil => .cons r .nil
  | _, _, .cons a b => .cons a (RepK.snoc r b)
theorem RepK.put {k : Key} {x : TV} {v : V} (r : Rep c α n H x v) {xs : List (Key × TV)} {vs : List (Key × V)} (h : RepK c α n H xs vs) : RepK c α n H (putK xs k x) (L2.putK vs k v) := by
  unfold putK L2.putK
  rw [h.any]
  split
  · exact h.map r
  · exact h.snoc r

/-! ### roots named -/
mutual
theorem hb_of : ∀ {x : TV} {v : V}, Rep c α n H x v → hb x ≤ n
  | _, _, .non => Nat.zero_le _
  | _, _, .bl _ => Nat.zero_le _
  | _, _, .int _ => Nat.zero_le _
  | _, _, .str _ => Nat.zero_le _
  | _, _, .ty _ => Nat.zero_le _
  | _, _, .lst _ _ r => hbs_of r
  | _, _, .klstF _ _ r => hbs_of r
  | _, _, .klstK _ r => hbs_of r
  | _, _, .tup _ _ r => hbs_of r
  | _, _, .tupK _ r => hbs_of r
  | _, _, .dct _ _ r => hbK_of r
  | _, _, .ins _ _ r => hbF_of r
  | _, _, .root h => h
theorem hbs_of : ∀ {x : List TV} {v : List V}, Reps c α n H x v → hbs x ≤ n
  | _, _, .nil => Nat.zero_le _
  | _, _, .cons a b => Nat.max_le.mpr ⟨hb_of a, hbs_of b⟩
theorem hbK_of : ∀ {x : List (Key × TV)} {v : List (Key × V)}, RepK c α n H x v → hbK x ≤ n
  | _, _, .nil => Nat.zero_le _
  | _, _, .cons a b => Nat.max_le.mpr ⟨hb_of a, hbK_of b⟩
theorem hbF_of : ∀ {x : List (Str × TV)} {v : List (Str × V)}, RepF c α n H x v → hbF x ≤ n
  | _, _, .nil => Nat.zero_le _
  | _, _, .cons a b => Nat.max_le.mpr ⟨hb_of a, hbF_of b⟩
end
theorem hbO_of {o : RO} {a : Addr} (h : RepO c α n H o a) : hbO o ≤ n := by
  cases o with
  | lst xs => obtain ⟨vs, _, r⟩ := h; exact hbs_of r
  | dct xs => obtain ⟨vs, _, r⟩ := h; exact hbK_of r
  | ins k xs => obtain ⟨dx, vs, _, r⟩ := h; exact hbF_of r
theorem SR.closed (S : SR c α R H) : Cl R.length R := fun k o _ h => hbO_of (S.obj k o h)
theorem SR.has (S : SR c α R H) {k : Nat} (hk : k < R.length) : ∃ o, H (α k) = some o := by
  have h := S.obj k R[k] (List.getElem?_eq_getElem hk)
  cases e : R[k] with
  | lst xs => rw [e] at h; obtain ⟨vs, h, _⟩ := h; exact ⟨_, h⟩
  | dct xs => rw [e] at h; obtain ⟨vs, h, _⟩ := h; exact ⟨_, h⟩
  | ins q xs => rw [e] at h; obtain ⟨dx, vs, h, _⟩ := h; exact ⟨_, h⟩
theorem SR.nMM (S : SR c α R H) {p : Addr} (hp : H p = none) : ¬ Bad c α R.length p := by
  rintro (⟨k, hk, rfl⟩ | z)
  · obtain ⟨o, h⟩ := S.has hk
    rw [h] at hp; cases hp
  · exact S.gh _ z hp
theorem RepO.later (L : Later n0 α R H α' R' H') {o : RO} {a a' : Addr} (h : RepO c α R.length H o a) (ho : ∀ ob, H a = some ob → H' a' = some ob) : RepO c α' R'.length H' o a' := by
  cases o with
  | lst xs => obtain ⟨vs, h, r⟩ := h; exact ⟨vs, ho _ h, r.later L⟩
  | dct xs => obtain ⟨vs, h, r⟩ := h; exact ⟨vs, ho _ h, r.later L⟩
  | ins k xs => obtain ⟨dx, vs, h, r⟩ := h; exact ⟨dx, vs, ho _ h, r.later L⟩
/-- a new object that is no root -/
theorem Later.fresh (S : SR c α R H) {p : Addr} {o : HO} (hp : H p = none) : Later n0 α R H α R (upd H p o) where
  len := Nat.le_refl _
  al := fun _ _ => rfl
  keep := fun a ob h _ => by rw [upd_ne (ne_of_none h hp)]; exact h
  trk := fun a h => by
    by_cases e : a = p
    · subst e; exact hp
    · rw [upd_ne e] at h; exact h
  mm := fun _ h => .inl h
  cl := fun _ _ h => h
theorem SR.fresh (S : SR c α R H) {p : Addr} {o : HO} (hp : H p = none) : SR c α R (upd H p o) := by
  refine ⟨fun a z e => S.gh a z ((Later.fresh (n0 := 0) S (o := o) hp).trk a e), S.ng, fun k ob h => ?_, S.inj⟩
  refine (S.obj k ob h).later (n0 := 0) (Later.fresh S hp) fun q hq => ?_
  rw [upd_ne (ne_of_none hq hp)]; exact hq
/-- the same at two fresh places (an instance and its dict) -/
theorem Cl.snoc {m : Nat} {o : RO} (hm : m ≤ R.length) (h : Cl m R) : Cl m (R ++ [o]) := fun k ob hk e => by
  rw [List.getElem?_append_left (by omega)] at e
  exact h k ob hk e
/-- α with one root more -/
def snocA (α : Nat → Addr) (n : Nat) (p : Addr) : Nat → Addr := fun k => if k = n then p else α k
theorem snocA_lt {p : Addr} {k : Nat} (h : k < n) : snocA α n p k = α k := if_neg (by omega)
theorem snocA_at {p : Addr} : snocA α n p n = p := if_pos rfl
/-- a tracked object that is no root becomes one -/
theorem Later.snoc (hn : n0 ≤ R.length) {p : Addr} {o : RO} {ob : HO} (hp : H p = none) : Later n0 α R H (snocA α R.length p) (R ++ [o]) (upd H p ob) where
  len := by simp
  al := fun k hk => snocA_lt hk
  keep := fun a q h _ => by rw [upd_ne (ne_of_none h hp)]; exact h
  trk := fun a h => by
    by_cases e : a = p
    · subst e; exact hp
    · rw [upd_ne e] at h; exact h
  mm := fun a ⟨k, hk, e⟩ => by
    rw [List.length_append] at hk
    by_cases h : k < R.length
    · rw [snocA_lt h] at e; exact .inl ⟨k, h, e⟩
    · have : k = R.length := by have : [o].length = 1 := rfl; omega
      subst this
      rw [snocA_at] at e
      subst e; exact .inr hp
  cl := fun m hm h => h.snoc (Nat.le_trans hm hn)
theorem SR.snoc (S : SR c α R H) {p : Addr} {o : RO} {ob : HO} (hp : H p = none) (new : RepO c (snocA α R.length p) (R.length + 1) (upd H p ob) o p) : SR c (snocA α R.length p) (R ++ [o]) (upd H p ob) := by
  have hl : (R ++ [o]).length = R.length + 1 := by simp
  refine ⟨fun a z e => S.gh a z ((Later.fresh (n0 := 0) S (o := ob) hp).trk a e), fun k hk z => ?_, fun k q h => ?_, fun j k hj hk e => ?_⟩
  · rw [hl] at hk
    by_cases h : k < R.length
    · rw [snocA_lt h] at z; exact S.ng k h z
    · have : k = R.length := by omega
      subst this
      rw [snocA_at] at z; exact S.gh _ z hp
  · by_cases hk : k < R.length
    · rw [List.getElem?_append_left hk] at h
      have hS := S.obj k q h
      rw [snocA_lt hk]
      refine hS.later (Later.snoc (n0 := 0) (Nat.zero_le _) (o := o) hp) fun u hu => ?_
      rw [upd_ne (ne_of_none hu hp)]; exact hu
    · have hk2 : k < (R ++ [o]).length := (List.getElem?_eq_some_iff.mp h).1
      have : k = R.length := by omega
      subst this
      rw [List.getElem?_append_right (Nat.le_refl _), Nat.sub_self] at h
      cases h
      rw [hl, snocA_at]; exact new
  · rw [hl] at hj hk
    have hne : ∀ i, i < R.length → α i ≠ p := fun i hi z => by
      obtain ⟨u, hu⟩ := S.has hi
      rw [z, hp] at hu; cases hu
    by_cases h1 : j < R.length
    · rw [snocA_lt h1] at e
      by_cases h2 : k < R.length
      · rw [snocA_lt h2] at e; exact S.inj j k h1 h2 e
      · have : k = R.length := by omega
        subst this; rw [snocA_at] at e; exact absurd e (hne j h1)
    · have : j = R.length := by omega
      subst this; rw [snocA_at] at e
      by_cases h2 : k < R.length
      · rw [snocA_lt h2] at e; exact absurd e.symm (hne k h2)
      · omega
/-- a root is changed -/
theorem Later.set (S : SR c α R H) {k : Nat} {o o' : RO} {ob : HO} {put : List TV} (hk : R[k]? = some o) (hh : hbO o' ≤ max (hbO o) (hbs put)) (hm : put.all (mayPut n0 k) = true) : Later n0 α R H α (R.set k o') (upd H (α k) ob) := by
  have hkl : k < R.length := (List.getElem?_eq_some_iff.mp hk).1
  refine ⟨by simp, fun _ _ => rfl, fun a q h hn => ?_, fun a h => ?_, fun a h => .inl (by rw [List.length_set] at h; exact h), fun m hm' h => ?_⟩
  · rw [upd_ne (fun z => hn ⟨k, hkl, z.symm⟩)]; exact h
  · by_cases e : a = α k
    · subst e; rw [upd_same] at h; cases h
    · rw [upd_ne e] at h; exact h
  · intro j q hj e
    by_cases hjk : k = j
    · subst hjk
      rw [List.getElem?_set_self hkl] at e
      cases e
      refine Nat.le_trans hh (Nat.max_le.mpr ⟨h k o hj hk, ?_⟩)
      clear hh
      induction put with
      | nil => exact Nat.zero_le _
      | cons v vs ih =>
        rw [List.all_cons, Bool.and_eq_true] at hm
        refine Nat.max_le.mpr ⟨?_, ih hm.2⟩
        have h1 := hm.1
        unfold mayPut at h1
        rw [Bool.or_eq_true, decide_eq_true_iff, decide_eq_true_iff] at h1
        omega
    · rw [List.getElem?_set_ne hjk] at e
      exact h j q hj e
theorem SR.set (S : SR c α R H) {k : Nat} {o o' : RO} {ob : HO} {put : List TV} (hk : R[k]? = some o) (hh : hbO o' ≤ max (hbO o) (hbs put)) (hm : put.all (mayPut n0 k) = true) (new : RepO c α R.length (upd H (α k) ob) o' (α k)) : SR c α (R.set k o') (upd H (α k) ob) := by
  have hkl : k < R.length := (List.getElem?_eq_some_iff.mp hk).1
  refine ⟨fun a z e => S.gh a z ((Later.set (n0 := n0) S (ob := ob) hk hh hm).trk a e), fun j hj => S.ng j (by rw [List.length_set] at hj; exact hj), fun j q e => ?_, fun i j hi hj e => ?_⟩
  · by_cases hjk : k = j
    · subst hjk
      rw [List.getElem?_set_self hkl] at e
      cases e
      rw [List.length_set]; exact new
    · rw [List.getElem?_set_ne hjk] at e
      refine (S.obj j q e).later (Later.set (n0 := n0) S hk hh hm) fun u hu => ?_
      rw [upd_ne fun z => hjk (S.inj j k (List.getElem?_eq_some_iff.mp e).1 hkl z).symm]
      exact hu
  · rw [List.length_set] at hi hj
    exact S.inj i j hi hj e
end
end Pv

/-! E3: readings by the evaluator; operators, comparisons, truth, lengths, items by values. -/
namespace Pv
open PySem PySem.Spec PyProof.Rows L2

abbrev Rel (β γ : Type) := (Nat → Addr) → Nat → Hp → β → γ → Prop
def Post {β γ : Type} (c : Kc) (rel : Rel β γ) (n0 : Nat) (α : Nat → Addr) (R : Rs) (H : Hp) (r : Rz β) (Q : γ → Hp → Prop) (E : Nat → Addr → Hp → Prop) : Prop := match r with
  | .ok b R' => ∀ α' H' g, Later n0 α R H α' R' H' → SR c α' R' H' → rel α' R'.length H' b g → Q g H'
  | .exc k fs R' => ∀ α' H' d fs', Later n0 α R H α' R' H' → SR c α' R' H' → H' d = some (.xd fs') → RepF c α' R'.length H' fs fs' → E k d H'
  | .no => False
section
variable {β γ δ ε : Type} {c : Kc} {n0 : Nat} {α α' : Nat → Addr} {R R' : Rs} {H H' : Hp} {Q Q' : γ → Hp → Prop} {E : Nat → Addr → Hp → Prop} {rel : Rel β γ} {rel2 : Rel δ ε}
theorem Post.later {r : Rz β} (h : Post c rel n0 α R H r Q E) (L : Later n0 α R H α' R' H') : Post c rel n0 α' R' H' r Q E := by
  cases r with
  | ok b R1 => exact fun α1 H1 g L1 => h α1 H1 g (L.trans L1)
  | exc k fs R1 => exact fun α1 H1 d fs' L1 => h α1 H1 d fs' (L.trans L1)
  | no => exact h
theorem Post.mono {r : Rz β} (h : Post c rel n0 α R H r Q E) (q : ∀ g H', Q g H' → Q' g H') : Post c rel n0 α R H r Q' E := by
  cases r with
  | ok b R1 => exact fun α1 H1 g L1 S1 r1 => q _ _ (h α1 H1 g L1 S1 r1)
  | exc k fs R1 => exact h
  | no => exact h
/-- what stands behind a first part -/
def Mid (c : Kc) (rel : Rel β γ) (rel2 : Rel δ ε) (n0 : Nat) (α : Nat → Addr) (R : Rs) (H : Hp) (f : β → Rs → Rz δ) (Q : ε → Hp → Prop) (E : Nat → Addr → Hp → Prop) (g : γ) (H1 : Hp) : Prop :=
  ∃ α1 R1 b, Later n0 α R H α1 R1 H1 ∧ SR c α1 R1 H1 ∧ rel α1 R1.length H1 b g ∧ Post c rel2 n0 α1 R1 H1 (f b R1) Q E
theorem Post.bind {r : Rz β} {f : β → Rs → Rz δ} {Q : ε → Hp → Prop} (h : Post c rel2 n0 α R H (r.bind f) Q E) : Post c rel n0 α R H r (Mid c rel rel2 n0 α R H f Q E) E := by
  cases r with
  | ok b R1 => exact fun α1 H1 g L1 S1 r1 => ⟨α1, R1, b, L1, S1, r1, Post.later h L1⟩
  | exc k fs R1 => exact h
  | no => exact h
theorem Post.ok {b : β} (h : Post c rel n0 α R H (.ok b R) Q E) (S : SR c α R H) {g : γ} (r : rel α R.length H b g) : Q g H := h α H g Later.refl S r
theorem Post.guard {b : Bool} {r : Rz β} (h : Post c rel n0 α R H (guardR b r) Q E) : b = true ∧ Post c rel n0 α R H r Q E := by
  cases b with
  | true => exact ⟨rfl, h⟩
  | false => exact False.elim h
theorem guardO_some {α : Type} {b : Bool} {o : Option α} {x : α} (h : guardO b o = some x) : b = true ∧ o = some x := by
  cases b with
  | true => exact ⟨rfl, h⟩
  | false => cases h
theorem Post.ofO {o : Option β} (h : Post c rel n0 α R H (ofO o R) Q E) : ∃ b, o = some b ∧ Post c rel n0 α R H (.ok b R) Q E := by
  cases o with
  | some b => exact ⟨b, rfl, h⟩
  | none => exact False.elim h
end
/-- a new object: the tree or the root -/
def HOof (c : Kc) (α : Nat → Addr) (n : Nat) (H : Hp) (o : RO) (ob : HO) : Prop := match o with
  | .lst xs => ∃ vs, ob = .lst vs ∧ Reps c α n H xs vs
  | .dct kvs => ∃ vs, ob = .dK vs ∧ RepK c α n H kvs vs
  | .ins k fs => ∃ dx vs, ob = .ins (c.cl k) dx vs ∧ RepF c α n H fs vs
section
variable {c : Kc} {n0 n : Nat} {α : Nat → Addr} {R : Rs} {H : Hp} {E : Nat → Addr → Hp → Prop} {Q : V → Hp → Prop}
theorem alloc_ok {r : Bool} {o : RO} {ob : HO} {p : Addr} (h : Post c (Rep c) n0 α R H (alloc r o R) Q E) (S : SR c α R H) (hn : n0 ≤ R.length) (hp : H p = none) (ho : HOof c α R.length H o ob) : Q (.ref p) (upd H p ob) := by
  have Lf : Later n0 α R H α R (upd H p ob) := Later.fresh S hp
  cases r with
  | false =>
    refine h α (upd H p ob) (.ref p) Lf (S.fresh hp) ?_
    have hm : ¬ Bad c α R.length p := S.nMM hp
    cases o with
    | lst xs => obtain ⟨vs, rfl, q⟩ := ho; exact .lst upd_same hm (q.later Lf)
    | dct xs => obtain ⟨vs, rfl, q⟩ := ho; exact .dct upd_same hm (q.later Lf)
    | ins k xs => obtain ⟨dx, vs, rfl, q⟩ := ho; exact .ins upd_same hm (q.later Lf)
  | true =>
    have hl : (R ++ [o]).length = R.length + 1 := by simp
    have Ls : Later n0 α R H (snocA α R.length p) (R ++ [o]) (upd H p ob) := Later.snoc hn hp
    refine h _ _ _ Ls (S.snoc hp ?_) ?_
    · cases o with
      | lst xs => obtain ⟨vs, rfl, q⟩ := ho; exact ⟨vs, upd_same, hl ▸ q.later Ls⟩
      | dct xs => obtain ⟨vs, rfl, q⟩ := ho; exact ⟨vs, upd_same, hl ▸ q.later Ls⟩
      | ins k xs => obtain ⟨dx, vs, rfl, q⟩ := ho; exact ⟨dx, vs, upd_same, hl ▸ q.later Ls⟩
    · have : V.ref p = V.ref (snocA α R.length p R.length) := by rw [snocA_at]
      rw [this, hl]
      exact .root (Nat.lt_succ_self _)
/-- a new tuple -/
theorem tup_ok {xs : List TV} {vs : List V} {p : Addr} (h : Post c (Rep c) n0 α R H (.ok (.tup xs) R) Q E) (S : SR c α R H) (hp : H p = none) (ho : Reps c α R.length H xs vs) : Q (.ref p) (upd H p (.tup vs)) := by
  have Lf : Later n0 α R H α R (upd H p (.tup vs)) := Later.fresh S hp
  exact h α _ _ Lf (S.fresh hp) (.tup upd_same (S.nMM hp) (ho.later Lf))
theorem asLm_ok {x : TV} {v : V} {xs : List TV} (S : SR c α R H) (r : Rep c α R.length H x v) (h : asLm R x = some xs) : ∃ a vs, v = .ref a ∧ H a = some (.lst vs) ∧ Reps c α R.length H xs vs := by
  cases r with
  | lst h1 _ r => cases h; exact ⟨_, _, rfl, h1, r⟩
  | root hk =>
    rename_i k
    have e : asLm R (.root k) = match R[k]? with | some (.lst xs) => some xs | _ => none := rfl
    rw [e] at h
    cases q : R[k]? with
    | none => rw [q] at h; cases h
    | some o =>
      rw [q] at h
      cases o with
      | lst ys => cases h; obtain ⟨vs, h1, r⟩ := S.obj k _ q; exact ⟨_, vs, rfl, h1, r⟩
      | dct _ => cases h
      | ins _ _ => cases h
  | _ => cases h
theorem asL_ok {x : TV} {v : V} {xs : List TV} (S : SR c α R H) (r : Rep c α R.length H x v) (h : asL R x = some xs) : ∃ a vs, v = .ref a ∧ SqL c.K H a vs ∧ Reps c α R.length H xs vs := by
  have gen : asLm R x = some xs → ∃ a vs, v = .ref a ∧ SqL c.K H a vs ∧ Reps c α R.length H xs vs := fun h => by
    obtain ⟨a, vs, e, h1, r1⟩ := asLm_ok S r h
    exact ⟨a, vs, e, SqL.of h1, r1⟩
  cases x with
  | klst ys =>
    cases h
    cases r with
    | klstF h1 _ r => exact ⟨_, _, rfl, .inl (.inr ⟨_, h1⟩), r⟩
    | klstK h1 r => exact ⟨_, _, rfl, .inr h1, r⟩
  | non => exact gen h
  | bl _ => exact gen h
  | int _ => exact gen h
  | str _ => exact gen h
  | ty _ => exact gen h
  | lst _ => exact gen h
  | tup _ => exact gen h
  | dct _ => exact gen h
  | ins _ _ => exact gen h
  | root _ => exact gen h
theorem asT_ok {x : TV} {v : V} {xs : List TV} (r : Rep c α n H x v) (h : asT x = some xs) : ∃ a vs, v = .ref a ∧ SqT c.K H a vs ∧ Reps c α n H xs vs := by
  cases r with
  | tup h1 _ r => cases h; exact ⟨_, _, rfl, SqT.of h1, r⟩
  | tupK h1 r => cases h; exact ⟨_, _, rfl, .inr h1, r⟩
  | _ => cases h
theorem tup_inv {xs : List TV} {v : V} (r : Rep c α n H (.tup xs) v) : ∃ a vs, v = .ref a ∧ SqT c.K H a vs ∧ Reps c α n H xs vs := asT_ok r rfl
theorem asD_ok {x : TV} {v : V} {xs : List (Key × TV)} (S : SR c α R H) (r : Rep c α R.length H x v) (h : asD R x = some xs) : ∃ a vs, v = .ref a ∧ H a = some (.dK vs) ∧ RepK c α R.length H xs vs := by
  cases r with
  | dct h1 _ r => cases h; exact ⟨_, _, rfl, h1, r⟩
  | root hk =>
    rename_i k
    have e : asD R (.root k) = match R[k]? with | some (.dct xs) => some xs | _ => none := rfl
    rw [e] at h
    cases q : R[k]? with
    | none => rw [q] at h; cases h
    | some o =>
      rw [q] at h
      cases o with
      | dct ys => cases h; obtain ⟨vs, h1, r⟩ := S.obj k _ q; exact ⟨_, vs, rfl, h1, r⟩
      | lst _ => cases h
      | ins _ _ => cases h
  | _ => cases h
theorem asI_ok {x : TV} {v : V} {k : Nat} {xs : List (Str × TV)} (S : SR c α R H) (r : Rep c α R.length H x v) (h : asI R x = some (k, xs)) : ∃ a dx vs, v = .ref a ∧ H a = some (.ins (c.cl k) dx vs) ∧ RepF c α R.length H xs vs := by
  cases r with
  | ins h1 _ r => cases h; exact ⟨_, _, _, rfl, h1, r⟩
  | root hk =>
    rename_i j
    have e : asI R (.root j) = match R[j]? with | some (.ins c fs) => some (c, fs) | _ => none := rfl
    rw [e] at h
    cases q : R[j]? with
    | none => rw [q] at h; cases h
    | some o =>
      rw [q] at h
      cases o with
      | ins _ ys => cases h; obtain ⟨dx, vs, h1, r⟩ := S.obj j _ q; exact ⟨_, dx, vs, rfl, h1, r⟩
      | lst _ => cases h
      | dct _ => cases h
  | _ => cases h
theorem int_inv {i : Int} {v : V} (r : Rep c α n H (.int i) v) : v = .int i := by cases r; rfl
theorem str_inv {i : Str} {v : V} (r : Rep c α n H (.str i) v) : v = .str i := by cases r; rfl
theorem bl_inv {i : Bool} {v : V} (r : Rep c α n H (.bl i) v) : v = .bl i := by cases r; rfl
theorem non_inv {v : V} (r : Rep c α n H .non v) : v = .non := by cases r; rfl
/-! a value of data -/
mutual
theorem toD_ok : ∀ {x : TV} {v : V} {d : PyData}, Rep c α n H x v → toD x = some d → Dp c.K H v d
  | _, _, _, .non, e => by cases e; exact .non
  | _, _, _, .bl b, e => by cases e; exact .bl b
  | _, _, _, .int i, e => by cases e; exact .int i
  | _, _, _, .str s, e => by cases e; exact .str s
  | _, _, _, .lst (xs := xs) h m r, e => by
    have e' : (toDs xs).map PyData.list = some _ := e
    cases q : toDs xs with
    | none => rw [q] at e'; cases e'
    | some ds => rw [q] at e'; cases e'; exact .lst (SqL.of h) (toDs_ok r q)
  | _, _, _, .klstF (xs := xs) h m r, e => by
    have e' : (toDs xs).map PyData.list = some _ := e
    cases q : toDs xs with
    | none => rw [q] at e'; cases e'
    | some ds => rw [q] at e'; cases e'; exact .lst (.inl (.inr ⟨_, h⟩)) (toDs_ok r q)
  | _, _, _, .klstK (xs := xs) h r, e => by
    have e' : (toDs xs).map PyData.list = some _ := e
    cases q : toDs xs with
    | none => rw [q] at e'; cases e'
    | some ds => rw [q] at e'; cases e'; exact .lst (.inr h) (toDs_ok r q)
  | _, _, _, .tup (xs := xs) h m r, e => by
    have e' : (toDs xs).map PyData.tuple = some _ := e
    cases q : toDs xs with
    | none => rw [q] at e'; cases e'
    | some ds => rw [q] at e'; cases e'; exact .tup (SqT.of h) (toDs_ok r q)
  | _, _, _, .tupK (xs := xs) h r, e => by
    have e' : (toDs xs).map PyData.tuple = some _ := e
    cases q : toDs xs with
    | none => rw [q] at e'; cases e'
    | some ds => rw [q] at e'; cases e'; exact .tup (.inr h) (toDs_ok r q)
  | _, _, _, .ty _, e => by cases e
  | _, _, _, .dct _ _ _, e => by cases e
  | _, _, _, .ins _ _ _, e => by cases e
  | _, _, _, .root _, e => by cases e
theorem toDs_ok : ∀ {x : List TV} {v : List V} {d : List PyData}, Reps c α n H x v → toDs x = some d → DpAll c.K H v d
  | _, _, _, .nil, e => by cases e; exact .nil
  | _, _, _, .cons (x := x) (xs := xs) a b, e => by
    have e' : (match toD x, toDs xs with | some d, some ds => some (d :: ds) | _, _ => none) = some _ := e
    cases q1 : toD x with
    | none => rw [q1] at e'; cases e'
    | some d1 =>
      cases q2 : toDs xs with
      | none => rw [q1, q2] at e'; cases e'
      | some ds => rw [q1, q2] at e'; cases e'; exact .cons (toD_ok a q1) (toDs_ok b q2)
end
end
/-! how a value reads when roots stand for trees -/
section
variable {c : Kc} {n0 n : Nat} {α : Nat → Addr} {R : Rs} {H : Hp} {E : Nat → Addr → Hp → Prop} {Q : V → Hp → Prop}
mutual
theorem sub_ok {α' : Nat → Addr} {m : Nat} {f : Nat → Option TV} (hm : ∀ a, MM α' m a → MM α n a) (hf : ∀ k t, k < n → f k = some t → Rep c α' m H t (.ref (α k))) : ∀ {x : TV} {v : V} {y : TV}, Rep c α n H x v → sub f x = some y → Rep c α' m H y v
  | _, _, _, .non, e => by cases e; exact .non
  | _, _, _, .bl b, e => by cases e; exact .bl b
  | _, _, _, .int i, e => by cases e; exact .int i
  | _, _, _, .str s, e => by cases e; exact .str s
  | _, _, _, .ty s, e => by cases e; exact .ty s
  | _, _, _, .lst (xs := xs) h q r, e => by
    have e' : (subs f xs).map TV.lst = some _ := e
    cases z : subs f xs with
    | none => rw [z] at e'; cases e'
    | some ys => rw [z] at e'; cases e'; exact .lst h (fun w => q (w.imp (hm _) id)) (subs_ok hm hf r z)
  | _, _, _, .klstF (xs := xs) h q r, e => by
    have e' : (subs f xs).map TV.klst = some _ := e
    cases z : subs f xs with
    | none => rw [z] at e'; cases e'
    | some ys => rw [z] at e'; cases e'; exact .klstF h (fun w => q (w.imp (hm _) id)) (subs_ok hm hf r z)
  | _, _, _, .klstK (xs := xs) h r, e => by
    have e' : (subs f xs).map TV.klst = some _ := e
    cases z : subs f xs with
    | none => rw [z] at e'; cases e'
    | some ys => rw [z] at e'; cases e'; exact .klstK h (subs_ok hm hf r z)
  | _, _, _, .tup (xs := xs) h q r, e => by
    have e' : (subs f xs).map TV.tup = some _ := e
    cases z : subs f xs with
    | none => rw [z] at e'; cases e'
    | some ys => rw [z] at e'; cases e'; exact .tup h (fun w => q (w.imp (hm _) id)) (subs_ok hm hf r z)
  | _, _, _, .tupK (xs := xs) h r, e => by
    have e' : (subs f xs).map TV.tup = some _ := e
    cases z : subs f xs with
    | none => rw [z] at e'; cases e'
    | some ys => rw [z] at e'; cases e'; exact .tupK h (subs_ok hm hf r z)
  | _, _, _, .dct (xs := xs) h q r, e => by
    have e' : (subK f xs).map TV.dct = some _ := e
    cases z : subK f xs with
    | none => rw [z] at e'; cases e'
    | some ys => rw [z] at e'; cases e'; exact .dct h (fun w => q (w.imp (hm _) id)) (subK_ok hm hf r z)
  | _, _, _, .ins (k := k) (xs := xs) h q r, e => by
    have e' : (subF f xs).map (TV.ins k) = some _ := e
    cases z : subF f xs with
    | none => rw [z] at e'; cases e'
    | some ys => rw [z] at e'; cases e'; exact .ins h (fun w => q (w.imp (hm _) id)) (subF_ok hm hf r z)
  | _, _, _, .root (k := k) h, e => hf k _ h e
theorem subs_ok {α' : Nat → Addr} {m : Nat} {f : Nat → Option TV} (hm : ∀ a, MM α' m a → MM α n a) (hf : ∀ k t, k < n → f k = some t → Rep c α' m H t (.ref (α k))) : ∀ {x : List TV} {v : List V} {y : List TV}, Reps c α n H x v → subs f x = some y → Reps c α' m H y v
  | _, _, _, .nil, e => by cases e; exact .nil
  | _, _, _, .cons (x := x) (xs := xs) a b, e => by
    have e' : (match sub f x, subs f xs with | some d, some ds => some (d :: ds) | _, _ => none) = some _ := e
    cases q1 : sub f x with
    | none => rw [q1] at e'; cases e'
    | some d1 =>
      cases q2 : subs f xs with
      | none => rw [q1, q2] at e'; cases e'
      | some ds => rw [q1, q2] at e'; cases e'; exact .cons (sub_ok hm hf a q1) (subs_ok hm hf b q2)
theorem subK_ok {α' : Nat → Addr} {m : Nat} {f : Nat → Option TV} (hm : ∀ a, MM α' m a → MM α n a) (hf : ∀ k t, k < n → f k = some t → Rep c α' m H t (.ref (α k))) : ∀ {x : List (Key × TV)} {v : List (Key × V)} {y : List (Key × TV)}, RepK c α n H x v → subK f x = some y → RepK c α' m H y v
  | _, _, _, .nil, e => by cases e; exact .nil
  | _, _, _, .cons (k := k) (x := x) (xs := xs) a b, e => by
    have e' : (match sub f x, subK f xs with | some d, some ds => some ((k, d) :: ds) | _, _ => none) = some _ := e
    cases q1 : sub f x with
    | none => rw [q1] at e'; cases e'
    | some d1 =>
      cases q2 : subK f xs with
      | none => rw [q1, q2] at e'; cases e'
      | some ds => rw [q1, q2] at e'; cases e'; exact .cons (sub_ok hm hf a q1) (subK_ok hm hf b q2)
theorem subF_ok {α' : Nat → Addr} {m : Nat} {f : Nat → Option TV} (hm : ∀ a, MM α' m a → MM α n a) (hf : ∀ k t, k < n → f k = some t → Rep c α' m H t (.ref (α k))) : ∀ {x : List (Str × TV)} {v : List (Str × V)} {y : List (Str × TV)}, RepF c α n H x v → subF f x = some y → RepF c α' m H y v
  | _, _, _, .nil, e => by cases e; exact .nil
  | _, _, _, .cons (k := k) (x := x) (xs := xs) a b, e => by
    have e' : (match sub f x, subF f xs with | some d, some ds => some ((k, d) :: ds) | _, _ => none) = some _ := e
    cases q1 : sub f x with
    | none => rw [q1] at e'; cases e'
    | some d1 =>
      cases q2 : subF f xs with
      | none => rw [q1, q2] at e'; cases e'
      | some ds => rw [q1, q2] at e'; cases e'; exact .cons (sub_ok hm hf a q1) (subF_ok hm hf b q2)
end
theorem subO_ok {α' : Nat → Addr} {m : Nat} {f : Nat → Option TV} (hm : ∀ a, MM α' m a → MM α n a) (hf : ∀ k t, k < n → f k = some t → Rep c α' m H t (.ref (α k))) {o o' : RO} {a : Addr} (h : RepO c α n H o a) (e : subO f o = some o') : RepO c α' m H o' a := by
  cases o with
  | lst xs =>
    have e' : (subs f xs).map RO.lst = some _ := e
    obtain ⟨vs, h, r⟩ := h
    cases z : subs f xs with
    | none => rw [z] at e'; cases e'
    | some ys => rw [z] at e'; cases e'; exact ⟨vs, h, subs_ok hm hf r z⟩
  | dct xs =>
    have e' : (subK f xs).map RO.dct = some _ := e
    obtain ⟨vs, h, r⟩ := h
    cases z : subK f xs with
    | none => rw [z] at e'; cases e'
    | some ys => rw [z] at e'; cases e'; exact ⟨vs, h, subK_ok hm hf r z⟩
  | ins k xs =>
    have e' : (subF f xs).map (RO.ins k) = some _ := e
    obtain ⟨dx, vs, h, r⟩ := h
    cases z : subF f xs with
    | none => rw [z] at e'; cases e'
    | some ys => rw [z] at e'; cases e'; exact ⟨dx, vs, h, subF_ok hm hf r z⟩
theorem tree_ok {o : RO} {a : Addr} (h : RepO c α n H o a) (hm : ¬ Bad c α n a) : Rep c α n H (treeOf o) (.ref a) := by
  cases o with
  | lst xs => obtain ⟨vs, h, r⟩ := h; exact .lst h hm r
  | dct xs => obtain ⟨vs, h, r⟩ := h; exact .dct h hm r
  | ins k xs => obtain ⟨dx, vs, h, r⟩ := h; exact .ins h hm r
theorem rootT_ok {α' : Nat → Addr} {m bad : Nat} (S : SR c α R H) (hm : ∀ a, MM α' m a → MM α R.length a) (al : ∀ k, k < n0 → α' k = α k) (hn : n0 ≤ m) (hx : ∀ k, k < R.length → n0 ≤ k → k ≠ bad → ¬ MM α' m (α k)) : ∀ (n k : Nat) (t : TV), k < R.length → rootT R n0 bad n k = some t → Rep c α' m H t (.ref (α k)) := by
  have lo : ∀ k, k < n0 → Rep c α' m H (.root k) (.ref (α k)) := fun k h => al k h ▸ .root (Nat.lt_of_lt_of_le h hn)
  intro n
  induction n with
  | zero =>
    intro k t hk e
    have e' : (if k < n0 then some (.root k) else none) = some t := e
    by_cases h : k < n0
    · rw [if_pos h] at e'; cases e'; exact lo k h
    · rw [if_neg h] at e'; cases e'
  | succ n ih =>
    intro k t hk e
    have e' : (if k < n0 then some (.root k) else if k = bad then none else match R[k]? with
      | some o => (subO (rootT R n0 bad n) o).map treeOf
      | none => none) = some t := e
    by_cases h : k < n0
    · rw [if_pos h] at e'; cases e'; exact lo k h
    · rw [if_neg h] at e'
      by_cases hb : k = bad
      · rw [if_pos hb] at e'; cases e'
      · rw [if_neg hb] at e'
        cases q : R[k]? with
        | none => rw [q] at e'; cases e'
        | some o =>
          rw [q] at e'
          have e2 : (subO (rootT R n0 bad n) o).map treeOf = some t := e'
          cases z : subO (rootT R n0 bad n) o with
          | none => rw [z] at e2; cases e2
          | some o' =>
            rw [z] at e2
            cases e2
            exact tree_ok (subO_ok hm (fun k t hk e => ih k t hk e) (S.obj k o q) z) (fun w => w.elim (hx k hk (Nat.not_lt.mp h) hb) (S.ng k hk))
/-- roots below n0 stay, all others are trees -/
theorem rootT_cut (S : SR c α R H) (hn : n0 ≤ R.length) (n k : Nat) (t : TV) (hk : k < R.length) (e : rootT R n0 R.length n k = some t) : Rep c α n0 H t (.ref (α k)) :=
  rootT_ok S (fun a ⟨j, hj, e⟩ => ⟨j, Nat.lt_of_lt_of_le hj hn, e⟩) (fun _ _ => rfl) (Nat.le_refl _) (fun k hk h0 _ ⟨j, hj, e⟩ => absurd (S.inj j k (Nat.lt_of_lt_of_le hj hn) hk e) (by omega)) n k t hk e
theorem dataOf_ok {x : TV} {v : V} {d : PyData} (S : SR c α R H) (r : Rep c α R.length H x v) (h : dataOf R x = some d) : Dp c.K H v d := by
  unfold dataOf at h
  cases q : sub (rootT R 0 R.length deepN) x with
  | none => rw [q] at h; cases h
  | some y =>
    rw [q] at h
    exact toD_ok (sub_ok (m := 0) (α' := α) (fun a ⟨j, hj, _⟩ => absurd hj (Nat.not_lt_zero _)) (fun k t hk e => rootT_cut S (Nat.zero_le _) deepN k t hk e) r q) h
end
end Pv

/-! E4: operators, comparisons, truth, items, slices, built-in functions by values. -/
namespace Pv
open PySem PySem.Spec PyProof.Rows L2

structure Xo (c : Kc) (X : Cx) : Prop where
  K : X.K = c.K
  calm : X.calm = true
  hu : X.A.units + 128 < cLine
  gd : X.A.guards = some []
theorem Xo.w {c : Kc} {X : Cx} (xo : Xo c X) (N : Addr → Prop) : Xo (c.w N) X := ⟨xo.K, xo.calm, xo.hu, xo.gd⟩
abbrev Ex0 := Nat → Addr → Hp → Prop
/-- a two-place function of values, by the evaluator -/
def rEv2 (c : Kc) (n0 : Nat) (E : Ex0) (g : TV → TV → Rs → Rz TV) : R2 := fun x y H Q =>
  ∃ N α R tx ty, n0 ≤ R.length ∧ SR (c.w N) α R H ∧ Rep (c.w N) α R.length H tx x ∧ Rep (c.w N) α R.length H ty y ∧ Post (c.w N) (Rep (c.w N)) n0 α R H (g tx ty R) Q E
section
variable {c : Kc} {X : Cx} {n0 : Nat} {E : Ex0}
theorem op_Add (xo : Xo c X) (r : Bool) : OpR X (binaryOp .Add) (rEv2 c n0 E (binV .Add r)) := by
  intro pins s σ H x y v u Q I rx ry ⟨N, α, R, tx, ty, hn, S, r1, r2, h⟩
  have xo := xo.w N
  have gen : (match asLm R tx, asLm R ty with
    | some xs, some ys => guardR (decide (xs.length + ys.length ≤ sizeLine)) (alloc r (.lst (xs ++ ys)) R)
    | _, _ => .no) = binV .Add r tx ty R → wpAny (model X.prog X.w) X.A (binaryOp .Add v u) (EP X pins σ Q) X.xe s := fun e => by
    rw [← e] at h
    cases q1 : asLm R tx with
    | none => rw [q1] at h; exact False.elim h
    | some xs =>
      cases q2 : asLm R ty with
      | none => rw [q1, q2] at h; exact False.elim h
      | some ys =>
        rw [q1, q2] at h
        obtain ⟨hz, h⟩ := Post.guard h
        obtain ⟨a, vs, rfl, ha, ra⟩ := asLm_ok S r1 q1
        obtain ⟨b, ws, rfl, hb, rb⟩ := asLm_ok S r2 q2
        have hz := of_decide_eq_true hz
        refine op_cat pins s σ H _ _ v u Q I rx ry ⟨a, b, vs, ws, rfl, rfl, ha, hb, by rw [← ra.length, ← rb.length]; exact hz, fun p hp => ?_⟩
        exact alloc_ok h S hn hp ⟨_, rfl, ra.append rb⟩
  cases tx with
  | int i =>
    cases ty with
    | int j =>
      cases r1; cases r2
      exact op_add pins s σ H _ _ v u Q I rx ry ⟨i, j, rfl, rfl, h.ok S (.int _)⟩
    | _ => exact gen rfl
  | str i =>
    cases ty with
    | str j =>
      cases r1; cases r2
      obtain ⟨hz, h⟩ := Post.guard h
      exact op_add_str pins s σ H _ _ v u Q I rx ry ⟨i, j, rfl, rfl, of_decide_eq_true hz, h.ok S (.str _)⟩
    | _ => exact gen rfl
  | _ => exact gen rfl
theorem op_Mult (xo : Xo c X) (r : Bool) : OpR X (binaryOp .Mult) (rEv2 c n0 E (binV .Mult r)) := by
  intro pins s σ H x y v u Q I rx ry ⟨N, α, R, tx, ty, hn, S, r1, r2, h⟩
  have xo := xo.w N
  cases ty with
  | int k =>
    cases r2
    have gen : (match asLm R tx with
      | some xs => guardR (decide (-(2 ^ 63) ≤ k ∧ k < 2 ^ 63 ∧ xs.length * k.toNat ≤ sizeLine)) (alloc r (.lst (List.replicate k.toNat xs).flatten) R)
      | none => .no) = binV .Mult r tx (.int k) R → wpAny (model X.prog X.w) X.A (binaryOp .Mult v u) (EP X pins σ Q) X.xe s := fun e => by
      rw [← e] at h
      cases q1 : asLm R tx with
      | none => rw [q1] at h; exact False.elim h
      | some xs =>
        rw [q1] at h
        obtain ⟨hz, h⟩ := Post.guard h
        obtain ⟨a, vs, rfl, ha, ra⟩ := asLm_ok S r1 q1
        have hz := of_decide_eq_true hz
        refine op_rep pins s σ H _ _ v u Q I rx ry ⟨a, k, vs, rfl, rfl, ha, hz.1, hz.2.1, by rw [← ra.length]; exact hz.2.2, fun p hp => ?_⟩
        exact alloc_ok h S hn hp ⟨_, rfl, ra.rep _⟩
    cases tx with
    | int i =>
      cases r1
      obtain ⟨hz, h⟩ := Post.guard h
      rw [Bool.or_eq_true, decide_eq_true_iff, decide_eq_true_iff] at hz
      exact op_mul pins s σ H _ _ v u Q I rx ry ⟨i, k, rfl, rfl, hz, h.ok S (.int _)⟩
    | _ => exact gen rfl
  | _ => cases tx <;> exact False.elim h
theorem op_Bin (xo : Xo c X) (op : Operator) (r : Bool) : OpR X (binaryOp op) (rEv2 c n0 E (binV op r)) := by
  have no : ∀ op : Operator, (∀ tx ty R, binV op r tx ty R = .no) → OpR X (binaryOp op) (rEv2 c n0 E (binV op r)) := fun op hno pins s σ H x y v u Q I rx ry ⟨N, α, R, tx, ty, hn, S, r1, r2, h⟩ => by
    rw [hno] at h; exact False.elim h
  cases op with
  | Add => exact op_Add xo r
  | Mult => exact op_Mult xo r
  | Sub =>
    intro pins s σ H x y v u Q I rx ry ⟨N, α, R, tx, ty, hn, S, r1, r2, h⟩
    have xo := xo.w N
    cases tx with
    | int i =>
      cases ty with
      | int j => cases r1; cases r2; exact op_sub pins s σ H _ _ v u Q I rx ry ⟨i, j, rfl, rfl, h.ok S (.int _)⟩
      | _ => exact False.elim h
    | _ => exact False.elim h
  | FloorDiv =>
    intro pins s σ H x y v u Q I rx ry ⟨N, α, R, tx, ty, hn, S, r1, r2, h⟩
    have xo := xo.w N
    cases tx with
    | int i =>
      cases ty with
      | int j =>
        cases r1; cases r2
        obtain ⟨hz, h⟩ := Post.guard h
        exact op_fdiv pins s σ H _ _ v u Q I rx ry ⟨i, j, rfl, rfl, (of_decide_eq_true hz : 0 < j ∧ j < 1073741824), h.ok S (.int _)⟩
      | _ => exact False.elim h
    | _ => exact False.elim h
  | Mod =>
    intro pins s σ H x y v u Q I rx ry ⟨N, α, R, tx, ty, hn, S, r1, r2, h⟩
    have xo := xo.w N
    cases tx with
    | int i =>
      cases ty with
      | int j =>
        cases r1; cases r2
        obtain ⟨hz, h⟩ := Post.guard h
        exact op_mod pins s σ H _ _ v u Q I rx ry ⟨i, j, rfl, rfl, of_decide_eq_true hz, h.ok S (.int _)⟩
      | _ => exact False.elim h
    | _ => exact False.elim h
  | Pow =>
    intro pins s σ H x y v u Q I rx ry ⟨N, α, R, tx, ty, hn, S, r1, r2, h⟩
    have xo := xo.w N
    cases tx with
    | int i =>
      cases ty with
      | int j =>
        cases r1; cases r2
        obtain ⟨hz, h⟩ := Post.guard h
        exact op_pow pins s σ H _ _ v u Q I rx ry ⟨i, j, rfl, rfl, (of_decide_eq_true hz : 0 ≤ j ∧ j ≤ 1000000 ∧ i.natAbs < 2 ^ 64), h.ok S (.int _)⟩
      | _ => exact False.elim h
    | _ => exact False.elim h
  | _ => exact no _ fun tx ty R => by cases tx <;> cases ty <;> rfl
/-! ### comparisons -/
theorem flat_V {α : Nat → Addr} {n : Nat} {H : Hp} {x : TV} {v : V} (r : Rep c α n H x v) (h : isFlat x = true) : flatV v = true := by
  cases r <;> first | rfl | cases h
theorem flatEq_V {α : Nat → Addr} {n : Nat} {H : Hp} {x y : TV} {v u : V} (r : Rep c α n H x v) (q : Rep c α n H y u) (h : isFlat x = true) (h' : isFlat y = true) : eqV v u = flatEq x y := by
  cases r <;> first | (cases h; done) | (cases q <;> first | rfl | (cases h'; done))
theorem flat_all {α : Nat → Addr} {n : Nat} {H : Hp} : ∀ {xs : List TV} {vs : List V}, Reps c α n H xs vs → xs.all isFlat = true → vs.all flatV = true
  | _, _, .nil, _ => rfl
  | _, _, .cons a b, h => by
    rw [List.all_cons, Bool.and_eq_true] at h ⊢
    exact ⟨flat_V a h.1, flat_all b h.2⟩
theorem flat_any {α : Nat → Addr} {n : Nat} {H : Hp} {x : TV} {v : V} (r : Rep c α n H x v) (hx : isFlat x = true) : ∀ {xs : List TV} {vs : List V}, Reps c α n H xs vs → xs.all isFlat = true → L2.inV v vs = xs.any fun z => flatEq z x
  | _, _, .nil, _ => rfl
  | _, _, .cons a b, h => by
    rw [List.all_cons, Bool.and_eq_true] at h
    have ih := flat_any r hx b h.2
    unfold L2.inV at ih ⊢
    rw [List.any_cons, List.any_cons, ih, flatEq_V a r h.1 hx]
theorem tKey_ok {α : Nat → Addr} {n : Nat} {H : Hp} {x : TV} {v : V} {k : Key} (r : Rep c α n H x v) (h : tKey x = some k) : v = kV k := by
  cases r <;> first | (cases h; rfl) | cases h
theorem str_one {s : Str} {a : Nat} (h : s.cps.toList = [a]) : s = ⟨#[a]⟩ := by
  cases s with
  | mk cps =>
    congr 1
    exact Array.toList_inj.mp h
/-- what in answers, told as a rule for either word -/
theorem in_any (xo : Xo c X) {α : Nat → Addr} {R : Rs} {H : Hp} {tx ty : TV} {x y : V} {b : Bool} (S : SR c α R H) (r1 : Rep c α R.length H tx x) (r2 : Rep c α R.length H ty y) (h : inV R tx ty = some b) :
    (∃ p xs, y = .ref p ∧ (SqL X.K H p xs ∨ SqT X.K H p xs) ∧ flatV x = true ∧ xs.all flatV = true ∧ b = L2.inV x xs) ∨
    (∃ (k : Nat) (z : Str), x = .str ⟨#[k]⟩ ∧ y = .str z ∧ b = decide (k ∈ z.cps.toList)) ∨
    (∃ a o, y = .ref a ∧ DGet H a x o ∧ b = o.isSome) := by
  unfold inV at h
  cases q : asL R ty with
  | some ys =>
    rw [q] at h
    obtain ⟨hf, h⟩ := guardO_some h
    rw [Bool.and_eq_true] at hf
    obtain ⟨a, vs, rfl, ha, ra⟩ := asL_ok S r2 q
    refine .inl ⟨a, vs, rfl, .inl (xo.K ▸ ha), flat_V r1 hf.1, flat_all ra hf.2, ?_⟩
    cases h
    exact (flat_any r1 hf.1 ra hf.2).symm
  | none =>
    rw [q] at h
    have dct : (match asD R ty, tKey tx with
      | some kvs, some k => some ((kvs.find? fun kv => decide (kv.1 = k)).isSome)
      | _, _ => none) = some b → ∃ a o, y = .ref a ∧ DGet H a x o ∧ b = o.isSome := fun h => by
      cases q1 : asD R ty with
      | none => rw [q1] at h; cases h
      | some kvs =>
        cases q2 : tKey tx with
        | none => rw [q1, q2] at h; cases h
        | some k =>
          rw [q1, q2] at h
          obtain ⟨a, vs, rfl, ha, ra⟩ := asD_ok S r2 q1
          have e := tKey_ok r1 q2
          subst e
          refine ⟨a, _, rfl, DGet.k ha, ?_⟩
          cases h
          obtain ⟨f1, f2⟩ := ra.find (k := k)
          cases q3 : (kvs.find? fun kv => decide (kv.1 = k)) with
          | none => rw [q3] at f2; rw [f2 rfl] <;> rfl
          | some kv =>
            rw [q3] at f1
            obtain ⟨v, e, _⟩ := f1 _ rfl
            rw [e] <;> rfl
    cases ty with
    | tup ys =>
      obtain ⟨hf, h⟩ := guardO_some h
      rw [Bool.and_eq_true] at hf
      obtain ⟨a, vs, rfl, ha, ra⟩ := tup_inv r2
      refine .inl ⟨a, vs, rfl, .inr (xo.K ▸ ha), flat_V r1 hf.1, flat_all ra hf.2, ?_⟩
      cases h
      exact (flat_any r1 hf.1 ra hf.2).symm
    | str t =>
      cases r2
      cases tx with
      | str s =>
        cases r1
        have h2 : (match s.cps.toList with
          | [c] => some (decide (c ∈ t.cps.toList))
          | _ => none) = some b := h
        cases e : s.cps.toList with
        | nil => rw [e] at h2; cases h2
        | cons a l =>
          cases l with
          | nil =>
            rw [e] at h2
            cases h2
            exact .inr (.inl ⟨a, t, by rw [str_one e], rfl, rfl⟩)
          | cons _ _ => rw [e] at h2; cases h2
      | _ => cases h
    | _ => exact .inr (.inr (dct h))
theorem op_in_dict (hu : X.A.units + 1 < cLine) : OpR X (compareOp .In) (fun x y H Q => ∃ a o, y = .ref a ∧ DGet H a x o ∧ Q (.bl o.isSome) H) := by
  intro pins s σ H x y v u Q I rx ry ⟨a, o, e, g, q⟩
  subst e
  obtain rfl : u = Value.ref a := ry
  exact d_in hu I g rx fun s3 I3 => ⟨.bl o.isSome, H, I3, rfl, q⟩
theorem op_notin_dict (hu : X.A.units + 1 < cLine) : OpR X (compareOp .NotIn) (fun x y H Q => ∃ a o, y = .ref a ∧ DGet H a x o ∧ Q (.bl (!o.isSome)) H) := by
  intro pins s σ H x y v u Q I rx ry ⟨a, o, e, g, q⟩
  subst e
  obtain rfl : u = Value.ref a := ry
  exact d_notIn hu I g rx fun s3 I3 => ⟨.bl (!o.isSome), H, I3, rfl, q⟩
theorem ofBl {α : Nat → Addr} {R : Rs} {H : Hp} {o : Option Bool} {Q : VK} (S : SR c α R H) (h : Post c (Rep c) n0 α R H (ofO (o.map .bl) R) Q E) : ∃ b, o = some b ∧ Q (.bl b) H := by
  obtain ⟨t, e, h⟩ := Post.ofO h
  cases o with
  | none => cases e
  | some b => cases e; exact ⟨b, rfl, h.ok S (.bl b)⟩
theorem isNon_ok {α : Nat → Addr} {n : Nat} {H : Hp} {x : TV} {v : V} (r : Rep c α n H x v) : decide (v = .non) = isNon x := by
  cases r <;> first | rfl | simp [isNon]
theorem op_Cmp (xo : Xo c X) (op : CmpOp) : OpR X (compareOp op) (rEv2 c n0 E fun x y R => ofO ((cmpV op x y R).map .bl) R) := by
  intro pins s σ H x y v u Q I rx ry ⟨N, α, R, tx, ty, hn, S, r1, r2, h⟩
  have xo := xo.w N
  obtain ⟨b, hb, q⟩ := ofBl S h
  have hu := xo.hu
  have eq : ∀ b, eqT R tx ty = some b → ∃ d e, Dp X.K H x d ∧ Dp X.K H y e ∧ SeqAt.shaped d = true ∧ SeqAt.shaped e = true ∧ b = PyData.eqv d e := fun b hb => by
    unfold eqT at hb
    cases q1 : dataOf R tx with
    | none => rw [q1] at hb; cases hb
    | some d =>
      cases q2 : dataOf R ty with
      | none => rw [q1, q2] at hb; cases hb
      | some e =>
        rw [q1, q2] at hb
        obtain ⟨hs, hb⟩ := guardO_some hb
        rw [Bool.and_eq_true] at hs
        cases hb
        exact ⟨d, e, xo.K ▸ dataOf_ok S r1 q1, xo.K ▸ dataOf_ok S r2 q2, hs.1, hs.2, rfl⟩
  cases op with
  | Eq =>
    obtain ⟨d, e, h1, h2, h3, h4, rfl⟩ := eq b hb
    exact op_eqD (by omega) pins s σ H x y v u Q I rx ry ⟨d, e, h1, h2, h3, h4, q⟩
  | NotEq =>
    have hb' : (eqT R tx ty).map (!·) = some b := hb
    cases z : eqT R tx ty with
    | none => rw [z] at hb'; cases hb'
    | some b' =>
      rw [z] at hb'
      cases hb'
      obtain ⟨d, e, h1, h2, h3, h4, rfl⟩ := eq b' z
      exact op_neD (by omega) pins s σ H x y v u Q I rx ry ⟨d, e, h1, h2, h3, h4, q⟩
  | Lt =>
    cases tx with
    | int i =>
      cases ty with
      | int j => cases r1; cases r2; cases hb; exact op_lt pins s σ H _ _ v u Q I rx ry ⟨i, j, rfl, rfl, q⟩
      | _ => cases hb
    | str i =>
      cases ty with
      | str j => cases r1; cases r2; cases hb; exact op_lt_str pins s σ H _ _ v u Q I rx ry ⟨i, j, rfl, rfl, q⟩
      | _ => cases hb
    | _ => cases hb
  | LtE =>
    cases tx with
    | int i =>
      cases ty with
      | int j => cases r1; cases r2; cases hb; exact op_le pins s σ H _ _ v u Q I rx ry ⟨i, j, rfl, rfl, q⟩
      | _ => cases hb
    | str i =>
      cases ty with
      | str j => cases r1; cases r2; cases hb; exact op_le_str pins s σ H _ _ v u Q I rx ry ⟨i, j, rfl, rfl, q⟩
      | _ => cases hb
    | _ => cases hb
  | Gt =>
    cases tx with
    | int i =>
      cases ty with
      | int j => cases r1; cases r2; cases hb; exact op_gt pins s σ H _ _ v u Q I rx ry ⟨i, j, rfl, rfl, q⟩
      | _ => cases hb
    | str i =>
      cases ty with
      | str j => cases r1; cases r2; cases hb; exact op_gt_str pins s σ H _ _ v u Q I rx ry ⟨i, j, rfl, rfl, q⟩
      | _ => cases hb
    | _ => cases hb
  | GtE =>
    cases tx with
    | int i =>
      cases ty with
      | int j => cases r1; cases r2; cases hb; exact op_ge pins s σ H _ _ v u Q I rx ry ⟨i, j, rfl, rfl, q⟩
      | _ => cases hb
    | str i =>
      cases ty with
      | str j => cases r1; cases r2; cases hb; exact op_ge_str pins s σ H _ _ v u Q I rx ry ⟨i, j, rfl, rfl, q⟩
      | _ => cases hb
    | _ => cases hb
  | Is =>
    cases ty with
    | non => cases r2; cases hb; exact op_isN pins s σ H _ _ v u Q I rx ry ⟨rfl, by rw [isNon_ok r1]; exact q⟩
    | _ => cases hb
  | IsNot =>
    cases ty with
    | non => cases r2; cases hb; exact op_notN pins s σ H _ _ v u Q I rx ry ⟨rfl, by rw [isNon_ok r1]; exact q⟩
    | _ => cases hb
  | In =>
    rcases in_any xo S r1 r2 hb with ⟨p, xs, rfl, h1, h2, h3, rfl⟩ | ⟨k, z, rfl, rfl, rfl⟩ | ⟨a, o, rfl, g, rfl⟩
    · exact op_in_seq pins s σ H _ _ v u Q I rx ry ⟨p, xs, rfl, h1, h2, h3, q⟩
    · exact op_in_sign pins s σ H _ _ v u Q I rx ry ⟨k, z, rfl, rfl, q⟩
    · exact op_in_dict (by omega) pins s σ H _ _ v u Q I rx ry ⟨a, o, rfl, g, q⟩
  | NotIn =>
    have hb' : (inV R tx ty).map (!·) = some b := hb
    cases z : inV R tx ty with
    | none => rw [z] at hb'; cases hb'
    | some b' =>
      rw [z] at hb'
      cases hb'
      rcases in_any xo S r1 r2 z with ⟨p, xs, rfl, h1, h2, h3, rfl⟩ | ⟨k, y, rfl, rfl, rfl⟩ | ⟨a, o, rfl, g, rfl⟩
      · exact op_notIn_seq pins s σ H _ _ v u Q I rx ry ⟨p, xs, rfl, h1, h2, h3, q⟩
      · exact op_notIn_sign pins s σ H _ _ v u Q I rx ry ⟨k, y, rfl, rfl, q⟩
      · exact op_notin_dict (by omega) pins s σ H _ _ v u Q I rx ry ⟨a, o, rfl, g, q⟩
/-! ### truth, length -/
theorem tru_V (xo : Xo c X) {α : Nat → Addr} {R : Rs} {H : Hp} {x : TV} {v : V} {b : Bool} (S : SR c α R H) (r : Rep c α R.length H x v) (h : truV R x = some b) : TruV X.K v H b := by
  have gen : (match asL R x with | some xs => some (!xs.isEmpty) | none => none) = some b → TruV X.K v H b := fun h => by
    cases q : asL R x with
    | none => rw [q] at h; cases h
    | some xs =>
      rw [q] at h
      cases h
      obtain ⟨a, vs, rfl, ha, ra⟩ := asL_ok S r q
      refine .inl ⟨vs, xo.K ▸ ha, ?_⟩
      cases ra <;> rfl
  cases x with
  | non => cases r; cases h; rfl
  | bl b => cases r; cases h; rfl
  | int i => cases r; cases h; rfl
  | str s =>
    cases r
    obtain ⟨hz, h⟩ := guardO_some h
    cases h
    exact ⟨of_decide_eq_true hz, rfl⟩
  | tup xs =>
    cases h
    obtain ⟨a, vs, rfl, ha, ra⟩ := tup_inv r
    refine .inr (.inl ⟨vs, xo.K ▸ ha, ?_⟩)
    cases ra <;> rfl
  | _ => exact gen h
end
end Pv

/-! M1: max of a tuple of ints. -/
namespace PySem
open PySem PyProof.Rows
section
variable {prog : Program} {w : World} {A : Around} {E : Value → Shared → Prop} {s : Shared} {l : Addr}
theorem max_intTuple {xs : Array (Int × Tok)} {Q : Value → Shared → Prop} (hh : A.handled = none) (hl : s.heap.IsTuple l (intItems xs)) (hne : 0 < xs.size)
    (h : ∀ v h' tk, (intItems xs)[argBest (fun i j => decide (numAt xs i > numAt xs j)) (xs.size - 1)]? = some v → (∀ b o, s.heap.get? b = some o → h'.get? b = some o) → Q v { s with heap := h', toks := tk }) :
    wpAny (model prog w) A (call (.builtin "max") [.ref l]) Q E s := by
  have hlt : l < s.heap.objs.size := by obtain ⟨_, e, _⟩ := hl; exact Heap.lt_size e
  have kp : ∀ b o, s.heap.get? b = some o → (s.heap.push { cls := .type "tuple_iterator", data := .fields #[.ref l, .int 0 0] }).get? b = some o := fun b o e => Heap.get?_push_of_some _ e
  refine call_max_walk (wpAny_pyIter_tuple hl ?_)
  refine ⟨s.heap.objs.size, _, _, _, _, _, _, rfl, Walks.tuple (A := A.in1) hh _ l (Nat.ne_of_lt hlt) (intItems xs), ⟨⟨_, Heap.get?_push_size _ rfl, rfl, rfl⟩, hl.at fun o e => kp l o e⟩, fun b hb => ?_, by simpa [intItems] using hne, CmpOf.ints_gt (numAt xs) (fun _ _ => intItems_at), fun v h' tk hP hk => ?_⟩
  · show b < (s.heap.push _).objs.size
    rw [Heap.size_push]
    rcases List.mem_cons.mp hb with rfl | hb
    · exact Nat.lt_succ_self _
    · rcases List.mem_cons.mp hb with rfl | hb
      · exact Nat.lt_succ_of_lt hlt
      · cases hb
  · refine h v h' tk (by simpa [intItems] using hP) fun b o e => hk b o (fun hm => ?_) (kp b o e)
    rcases List.mem_cons.mp hm with e1 | hm
    · exact absurd (e1 ▸ Heap.lt_size e) (Nat.lt_irrefl _)
    · cases hm
end
end PySem
namespace L2
open PySem PySem.Spec PyProof.Rows
theorem max_rawT {prog : Program} {w : World} {A : Around} {E : Value → Shared → Prop} {s : Shared} {l : Addr} {its : List Value} {ns : List Int} {Q : Value → Shared → Prop} (hh : A.handled = none) (hl : s.heap.IsTuple l its.toArray) (hi : IntsAre its ns) (hne : 0 < ns.length)
    (h : ∀ h' tk M t', (∀ b o, s.heap.get? b = some o → h'.get? b = some o) → M ∈ ns → (∀ a, a ∈ ns → a ≤ M) → Q (.int M t') { s with heap := h', toks := tk }) : wpAny (model prog w) A (call (.builtin "max") [.ref l]) Q E s := by
  obtain ⟨xs, e⟩ := hi.allInts.items
  have hn : numsOf (intItems xs).toList = ns := by rw [← e]; exact hi.numsOf
  rw [nums_intItems] at hn
  subst hn
  rw [e] at hl
  have hsz : 0 < xs.size := by simpa using hne
  refine PySem.max_intTuple hh hl hsz fun v h' tk hv hk => ?_
  obtain ⟨t, rfl⟩ := intItems_at hv
  obtain ⟨h1, h2⟩ := argBest_gt (numAt xs) (xs.size - 1)
  refine h h' tk _ t hk ?_ fun a ha => ?_
  · rw [numAt_eq]; exact PySem.getD_mem (by rw [List.length_map, Array.length_toList]; omega)
  · obtain ⟨j, hj, rfl⟩ := mem_getD ha
    rw [List.length_map, Array.length_toList] at hj
    have := h2 j (by omega)
    rw [numAt_eq] at this
    exact this
def rMaxT (K : PySem.W.Frag) : List V → Hp → VK → Prop := fun vs H Q => ∃ (a : Addr) (ns : List Int), vs = [V.ref a] ∧ SqT K H a (ns.map V.int) ∧ 0 < ns.length ∧ ∀ m, m ∈ ns → (∀ y, y ∈ ns → y ≤ m) → Q (.int m) H
theorem cr_maxT {X : Cx} (hc : X.calm = true) : CallR X (.builtin "max") (rMaxT X.K) := by
  intro pins s σ H vs us Q I r h
  obtain ⟨a, ns, rfl, hs, hne, q⟩ := h
  obtain ⟨its, rv, hl, _⟩ := I.tuple hs
  rw [Vals.ref1 r]
  exact max_rawT (I.ok.hd hc) (show s.heap.IsTuple a its.toArray from hl) rv.ints hne fun h' tk m t' hk h1 h2 => ⟨.int _, H, I.kept hk, ⟨_, rfl⟩, q m h1 h2⟩
end L2

/-! E5: lengths, items, slices, built-in functions, methods and stores by values. -/
namespace Pv
open PySem PySem.Spec PyProof.Rows L2

def rEvL (c : Kc) (n0 : Nat) (E : Ex0) (g : List TV → Rs → Rz TV) : List V → Hp → VK → Prop := fun vs H Q =>
  ∃ N α R ts, n0 ≤ R.length ∧ SR (c.w N) α R H ∧ Reps (c.w N) α R.length H ts vs ∧ Post (c.w N) (Rep (c.w N)) n0 α R H (g ts R) Q E
def fnBi : Bi → Value
  | .len => .builtin "len"
  | .abs => .builtin "abs"
  | .max => .builtin "max"
  | .min => .builtin "min"
  | .int => .type "int"
  | .repr => .builtin "repr"
  | .divmod => .builtin "divmod"
  | .list => .type "list"
  | .tuple => .type "tuple"
  | .all => .builtin "all"
  | .any => .builtin "any"
  | .sum => .builtin "sum"
section
variable {c : Kc} {X : Cx} {n0 n : Nat} {E : Ex0} {α : Nat → Addr} {R : Rs} {H : Hp}
theorem ints_ok : ∀ {xs : List TV} {vs : List V} {ns : List Int}, Reps c α n H xs vs → intsOf xs = some ns → vs = ns.map V.int
  | _, _, _, .nil, h => by cases h; rfl
  | _, _, ns, .cons (xs := xs) a b, h => by
    cases a with
    | int i =>
      have h' : (intsOf xs).map (i :: ·) = some ns := h
      cases q : intsOf xs with
      | none => rw [q] at h'; cases h'
      | some ms => rw [q] at h'; cases h'; rw [ints_ok b q] <;> rfl
    | _ => cases h
theorem bls_ok : ∀ {xs : List TV} {vs : List V} {ns : List Bool}, Reps c α n H xs vs → blsOf xs = some ns → vs = ns.map V.bl
  | _, _, _, .nil, h => by cases h; rfl
  | _, _, ns, .cons (xs := xs) a b, h => by
    cases a with
    | bl i =>
      have h' : (blsOf xs).map (i :: ·) = some ns := h
      cases q : blsOf xs with
      | none => rw [q] at h'; cases h'
      | some ms => rw [q] at h'; cases h'; rw [bls_ok b q] <;> rfl
    | _ => cases h
theorem maxI_mem : ∀ (m : Int) (ns : List Int), maxI m ns ∈ m :: ns ∧ ∀ y ∈ m :: ns, y ≤ maxI m ns
  | m, [] => ⟨List.mem_cons_self, fun y h => by
    have : y = m := by simpa using h
    subst this; exact Int.le_refl _⟩
  | m, x :: ns => by
    unfold maxI
    by_cases h : x > m
    · rw [if_pos h]
      obtain ⟨h1, h2⟩ := maxI_mem x ns
      refine ⟨List.mem_cons_of_mem _ h1, fun y hy => ?_⟩
      rcases List.mem_cons.mp hy with rfl | hy
      · have := h2 x List.mem_cons_self; omega
      · exact h2 y hy
    · rw [if_neg h]
      obtain ⟨h1, h2⟩ := maxI_mem m ns
      refine ⟨?_, fun y hy => ?_⟩
      · rcases List.mem_cons.mp h1 with e | e
        · rw [e]; exact List.mem_cons_self
        · exact List.mem_cons_of_mem _ (List.mem_cons_of_mem _ e)
      · rcases List.mem_cons.mp hy with rfl | hy
        · exact h2 _ List.mem_cons_self
        · rcases List.mem_cons.mp hy with rfl | hy
          · have := h2 m List.mem_cons_self; omega
          · exact h2 y (List.mem_cons_of_mem _ hy)
theorem intsL_ok {x : TV} {v : V} {ns : List Int} (S : SR c α R H) (r : Rep c α R.length H x v) (h : intsL R x = some ns) : ∃ a, v = .ref a ∧ SqL c.K H a (ns.map V.int) := by
  unfold intsL at h
  cases q : asL R x with
  | none => rw [q] at h; cases h
  | some xs =>
    rw [q] at h
    obtain ⟨a, vs, rfl, ha, ra⟩ := asL_ok S r q
    rw [ints_ok ra h] at ha
    exact ⟨a, rfl, ha⟩
theorem blsL_ok {x : TV} {v : V} {ns : List Bool} (S : SR c α R H) (r : Rep c α R.length H x v) (h : (asL R x).bind blsOf = some ns) : ∃ a, v = .ref a ∧ SqL c.K H a (ns.map V.bl) := by
  cases q : asL R x with
  | none => rw [q] at h; cases h
  | some xs =>
    rw [q] at h
    obtain ⟨a, vs, rfl, ha, ra⟩ := asL_ok S r q
    rw [bls_ok ra h] at ha
    exact ⟨a, rfl, ha⟩
/-- how many things there are -/
theorem len_V (xo : Xo c X) {x : TV} {v : V} {m : Nat} (S : SR c α R H) (r : Rep c α R.length H x v) (h : lenV R x = some m) : LenV X.K v H m ∨ ∃ a kvs, v = .ref a ∧ H a = some (.dK kvs) ∧ m = kvs.length := by
  have gen : (match asL R x with
    | some xs => some xs.length
    | none => match asD R x with
      | some kvs => some kvs.length
      | none => none) = some m → LenV X.K v H m ∨ ∃ a kvs, v = .ref a ∧ H a = some (.dK kvs) ∧ m = kvs.length := fun h => by
    cases q : asL R x with
    | some xs =>
      rw [q] at h
      cases h
      obtain ⟨a, vs, rfl, ha, ra⟩ := asL_ok S r q
      exact .inl (.inl ⟨vs, xo.K ▸ ha, ra.length⟩)
    | none =>
      rw [q] at h
      cases q2 : asD R x with
      | none => rw [q2] at h; cases h
      | some kvs =>
        rw [q2] at h
        cases h
        obtain ⟨a, vs, rfl, ha, ra⟩ := asD_ok S r q2
        exact .inr ⟨a, vs, rfl, ha, ra.length⟩
  cases x with
  | str s =>
    cases r
    obtain ⟨hz, h⟩ := guardO_some h
    cases h
    exact .inl ⟨of_decide_eq_true hz, rfl⟩
  | tup xs =>
    cases h
    obtain ⟨a, vs, rfl, ha, ra⟩ := tup_inv r
    exact .inl (.inr ⟨vs, xo.K ▸ ha, ra.length⟩)
  | _ => exact gen h
theorem call_len' : CallR X (.builtin "len") (fun xs H Q => ∃ x m, xs = [x] ∧ (LenV X.K x H m ∨ ∃ a kvs, x = .ref a ∧ H a = some (.dK kvs) ∧ m = kvs.length) ∧ Q (.int m) H) := by
  intro pins s σ H xs us Q I r ⟨x, m, e, h, q⟩
  rcases h with h | ⟨a, kvs, rfl, ha, rfl⟩
  · exact call_len pins s σ H xs us Q I r ⟨x, m, e, h, q⟩
  · exact call_lenD pins s σ H xs us Q I r ⟨a, kvs, e, ha, q⟩
theorem call_repr' (xo : Xo c X) : CallR X (.builtin "repr") (fun xs H Q => ∃ x d, xs = [x] ∧ Dp X.K H x d ∧ d.showable = true ∧ d.hasDict = false ∧ d.depth ≤ 64 ∧ d.shown.length ≤ sizeLine ∧ Q (.str d.shown) H) := by
  intro pins s σ H xs us Q I r ⟨x, d, e, h, hs, hd, h64, hz, q⟩
  subst e
  obtain ⟨u, rfl, ru⟩ := vals1 r
  have hu := xo.hu
  have hk : ∀ (u : Value) (a : Addr), x = .ref a → RelV x u → wpAny (model X.prog X.w) X.A (call (.builtin "repr") [u]) (EP X pins σ Q) X.xe s := fun u a e ru => by
    subst e
    obtain ⟨as, rd⟩ := Dp.reads I d _ u h ru
    cases ru
    exact repr_of_reads' rd hs (PyData.noDict_hsm hd) xo.gd (by omega) (fun _ _ h => h) (fun h' u' tk k => ⟨.str d.shown, H, I.kept k, ⟨_, rfl⟩, q⟩) hz
  cases h with
  | non => cases ru; exact PySem.P.repr_of_none ⟨.str "None", H, I.tok _, ⟨_, rfl⟩, q⟩
  | bl b => cases ru; exact PySem.P.repr_of_bool ⟨.str _, H, I.tok _, ⟨_, rfl⟩, q⟩
  | int i => obtain ⟨t, rfl⟩ := ru; exact PySem.P.repr_of_int (of_decide_eq_true hs) ⟨.str _, H, I.tok _, ⟨_, rfl⟩, q⟩
  | str z => obtain ⟨t, rfl⟩ := ru; exact PySem.P.repr_of_str ⟨.str _, H, I.tok _, ⟨_, rfl⟩, q⟩ hz
  | lst h1 h2 => exact hk u _ rfl ru
  | tup h1 h2 => exact hk u _ rfl ru
theorem call_Bi (xo : Xo c X) (b : Bi) (r : Bool) : CallR X (fnBi b) (rEvL c n0 E (biV b r)) := by
  intro pins s σ H vs us Q I rv ⟨N, α, R, ts, hn, S, rs, h⟩
  have xo := xo.w N
  have hc := xo.calm
  have hu := xo.hu
  cases ts with
  | nil => cases b <;> exact False.elim h
  | cons x ts =>
    cases ts with
    | nil =>
      obtain ⟨v, rfl, r1⟩ := rs.one
      cases b with
      | len =>
        obtain ⟨t, e, h⟩ := Post.ofO h
        cases q : lenV R x with
        | none => rw [q] at e; cases e
        | some m =>
          rw [q] at e; cases e
          exact call_len' pins s σ H _ us Q I rv ⟨v, m, rfl, len_V xo S r1 q, h.ok S (.int _)⟩
      | abs =>
        cases x with
        | int i => cases r1; exact call_abs pins s σ H _ us Q I rv ⟨i, rfl, h.ok S (.int _)⟩
        | _ => exact False.elim h
      | max =>
        have h0 : Post (c.w N) (Rep (c.w N)) n0 α R H (match asT x with
          | some xs => match intsOf xs with
            | some (m :: ms) => .ok (.int (maxI m ms)) R
            | _ => .no
          | none => match intsL R x with
            | some (m :: ms) => .ok (.int (maxI m ms)) R
            | _ => .no) Q E := by cases x <;> exact h
        cases qt : asT x with
        | some xs =>
          rw [qt] at h0
          obtain ⟨a, ws, rfl, ha, ra⟩ := asT_ok r1 qt
          have h0 : Post (c.w N) (Rep (c.w N)) n0 α R H (match intsOf xs with
            | some (m :: ms) => .ok (.int (maxI m ms)) R
            | _ => .no) Q E := h0
          cases q : intsOf xs with
          | none => rw [q] at h0; exact False.elim h0
          | some ns =>
            cases ns with
            | nil => rw [q] at h0; exact False.elim h0
            | cons m ms =>
              rw [q] at h0
              have ew := ints_ok ra q
              rw [ew] at ha
              refine cr_maxT hc pins s σ H _ us Q I rv ⟨a, m :: ms, rfl, xo.K ▸ ha, Nat.succ_pos _, fun z hz hz2 => ?_⟩
              obtain ⟨h1, h2⟩ := maxI_mem m ms
              have e : z = maxI m ms := Int.le_antisymm (h2 z hz) (hz2 _ h1)
              subst e
              exact h0.ok S (.int _)
        | none =>
        rw [qt] at h0
        have h' : Post (c.w N) (Rep (c.w N)) n0 α R H (match intsL R x with
          | some (m :: ms) => .ok (.int (maxI m ms)) R
          | _ => .no) Q E := h0
        cases q : intsL R x with
        | none => rw [q] at h'; exact False.elim h'
        | some ns =>
          cases ns with
          | nil => rw [q] at h'; exact False.elim h'
          | cons m ms =>
            rw [q] at h'
            obtain ⟨a, rfl, ha⟩ := intsL_ok S r1 q
            refine cr_max hc pins s σ H _ us Q I rv ⟨a, m :: ms, rfl, xo.K ▸ ha, Nat.succ_pos _, fun z hz hz2 => ?_⟩
            obtain ⟨h1, h2⟩ := maxI_mem m ms
            have e : z = maxI m ms := Int.le_antisymm (h2 z hz) (hz2 _ h1)
            subst e
            exact h'.ok S (.int _)
      | min => cases x <;> exact False.elim h
      | int =>
        cases x with
        | int i => cases r1; exact call_int1 pins s σ H _ us Q I rv (.inl ⟨i, rfl, h.ok S (.int _)⟩)
        | bl i => cases r1; exact call_int1 pins s σ H _ us Q I rv (.inr ⟨i, rfl, h.ok S (.int _)⟩)
        | _ => exact False.elim h
      | repr =>
        obtain ⟨t, e, h⟩ := Post.ofO h
        cases q : reprT R x with
        | none => rw [q] at e; cases e
        | some z =>
          rw [q] at e; cases e
          unfold reprT at q
          cases q2 : dataOf R x with
          | none => rw [q2] at q; cases q
          | some d =>
            rw [q2] at q
            obtain ⟨hz, q⟩ := guardO_some q
            cases q
            simp only [Bool.and_eq_true, Bool.not_eq_true', decide_eq_true_eq] at hz
            exact call_repr' xo pins s σ H _ us Q I rv ⟨v, d, rfl, xo.K ▸ dataOf_ok S r1 q2, hz.1.1.1, hz.1.1.2, hz.1.2, hz.2, h.ok S (.str _)⟩
      | divmod => cases x <;> exact False.elim h
      | list =>
        have h' : Post (c.w N) (Rep (c.w N)) n0 α R H (match asT x with
          | some xs => alloc r (.lst xs) R
          | none => match asL R x with
            | some xs => alloc r (.lst xs) R
            | none => .no) Q E := by cases x <;> exact h
        cases q : asT x with
        | some xs =>
          rw [q] at h'
          obtain ⟨a, vs, rfl, ha, ra⟩ := asT_ok r1 q
          exact call_list_of pins s σ H _ us Q I rv ⟨a, vs, rfl, .inr (xo.K ▸ ha), fun p hp => alloc_ok h' S hn hp ⟨_, rfl, ra⟩⟩
        | none =>
          rw [q] at h'
          cases q2 : asL R x with
          | none => rw [q2] at h'; exact False.elim h'
          | some xs =>
            rw [q2] at h'
            obtain ⟨a, vs, rfl, ha, ra⟩ := asL_ok S r1 q2
            exact call_list_of pins s σ H _ us Q I rv ⟨a, vs, rfl, .inl (xo.K ▸ ha), fun p hp => alloc_ok h' S hn hp ⟨_, rfl, ra⟩⟩
      | tuple =>
        have h' : Post (c.w N) (Rep (c.w N)) n0 α R H (match asT x with
          | some xs => .ok (.tup xs) R
          | none => match asL R x with
            | some xs => .ok (.tup xs) R
            | none => .no) Q E := by cases x <;> exact h
        cases q : asT x with
        | some xs =>
          rw [q] at h'
          obtain ⟨a, vs, rfl, ha, ra⟩ := asT_ok r1 q
          refine call_tuple_of pins s σ H _ us Q I rv ⟨a, vs, rfl, .inr ⟨xo.K ▸ ha, ?_⟩⟩
          cases x with
          | tup ys => cases q; exact h'.ok S r1
          | _ => cases q
        | none =>
          rw [q] at h'
          cases q2 : asL R x with
          | none => rw [q2] at h'; exact False.elim h'
          | some xs =>
            rw [q2] at h'
            obtain ⟨a, vs, rfl, ha, ra⟩ := asL_ok S r1 q2
            exact call_tuple_of pins s σ H _ us Q I rv ⟨a, vs, rfl, .inl ⟨xo.K ▸ ha, fun p hp => tup_ok h' S hp ra⟩⟩
      | all =>
        have h' : Post (c.w N) (Rep (c.w N)) n0 α R H (match (asL R x).bind blsOf with
          | some bs => .ok (.bl (bs.all id)) R
          | none => .no) Q E := by cases x <;> exact h
        cases q : (asL R x).bind blsOf with
        | none => rw [q] at h'; exact False.elim h'
        | some bs =>
          rw [q] at h'
          obtain ⟨a, rfl, ha⟩ := blsL_ok S r1 q
          exact cr_all hc pins s σ H _ us Q I rv ⟨a, bs, rfl, xo.K ▸ ha, h'.ok S (.bl _)⟩
      | any =>
        have h' : Post (c.w N) (Rep (c.w N)) n0 α R H (match (asL R x).bind blsOf with
          | some bs => .ok (.bl (bs.any id)) R
          | none => .no) Q E := by cases x <;> exact h
        cases q : (asL R x).bind blsOf with
        | none => rw [q] at h'; exact False.elim h'
        | some bs =>
          rw [q] at h'
          obtain ⟨a, rfl, ha⟩ := blsL_ok S r1 q
          exact cr_any hc pins s σ H _ us Q I rv ⟨a, bs, rfl, xo.K ▸ ha, h'.ok S (.bl _)⟩
      | sum =>
        have h' : Post (c.w N) (Rep (c.w N)) n0 α R H (match intsL R x with
          | some ns => .ok (.int ns.sum) R
          | none => .no) Q E := by cases x <;> exact h
        cases q : intsL R x with
        | none => rw [q] at h'; exact False.elim h'
        | some ns =>
          rw [q] at h'
          obtain ⟨a, rfl, ha⟩ := intsL_ok S r1 q
          exact cr_sum hc pins s σ H _ us Q I rv ⟨a, ns, rfl, xo.K ▸ ha, h'.ok S (.int _)⟩
    | cons y ts =>
      cases ts with
      | cons _ _ => cases b <;> first | exact False.elim h | (cases x <;> first | exact False.elim h | (cases y <;> exact False.elim h))
      | nil =>
        obtain ⟨v, u, rfl, r1, r2⟩ := rs.two
        cases b with
        | max =>
          cases x with
          | int i =>
            cases y with
            | int j => cases r1; cases r2; exact call_max2 hc pins s σ H _ us Q I rv ⟨i, j, rfl, h.ok S (.int _)⟩
            | _ => exact False.elim h
          | _ => exact False.elim h
        | min =>
          cases x with
          | int i =>
            cases y with
            | int j => cases r1; cases r2; exact call_min2 hc pins s σ H _ us Q I rv ⟨i, j, rfl, h.ok S (.int _)⟩
            | _ => exact False.elim h
          | _ => exact False.elim h
        | divmod =>
          cases x with
          | int i =>
            cases y with
            | int j =>
              cases r1; cases r2
              obtain ⟨hz, h⟩ := Post.guard h
              exact call_divmod pins s σ H _ us Q I rv ⟨i, j, rfl, (of_decide_eq_true hz : 0 < j ∧ j < 1073741824), fun p hp => tup_ok h S hp (.cons (.int _) (.cons (.int _) .nil))⟩
            | _ => exact False.elim h
          | _ => exact False.elim h
        | _ => cases x <;> exact False.elim h
end
end Pv

/-! E6: expressions by the evaluator. -/
namespace Pv
open PySem PySem.Spec PyProof.Rows L2

/-- what an evaluation stands in: the base's classes, the calls, the frame's base, what is wanted of errors -/
structure Cf where
  c : Kc
  G : Ga
  n0 : Nat
  E : Nat → Addr → L2.St → Hp → Prop
structure StR (c : Kc) (α : Nat → Addr) (n : Nat) (H : Hp) (σ : Slots) (σV : L2.St) : Prop where
  len : σ.length = σV.length
  at_ : ∀ (i : Nat) (x : TV), σ[i]? = some (some x) → ∃ v, σV[i]? = some (some v) ∧ Rep c α n H x v
section
variable {c : Kc} {n0 : Nat} {α α' : Nat → Addr} {R R' : Rs} {H H' : Hp} {σ : Slots} {σV : L2.St}
theorem StR.later (s : StR c α R.length H σ σV) (L : Later n0 α R H α' R' H') : StR c α' R'.length H' σ σV :=
  ⟨s.len, fun i x h => let ⟨v, h1, h2⟩ := s.at_ i x h; ⟨v, h1, h2.later L⟩⟩
theorem StR.set (s : StR c α R.length H σ σV) {x : TV} {v : V} (r : Rep c α R.length H x v) (i : Nat) : StR c α R.length H (σ.set i (some x)) (σV.set i (some v)) := by
  refine ⟨by rw [List.length_set, List.length_set]; exact s.len, fun j y h => ?_⟩
  by_cases hj : i = j
  · subst hj
    have hl : i < σ.length := by
      have := (List.getElem?_eq_some_iff.mp h).1
      rw [List.length_set] at this; exact this
    rw [List.getElem?_set_self hl] at h
    cases h
    exact ⟨v, by rw [List.getElem?_set_self (s.len ▸ hl)], r⟩
  · rw [List.getElem?_set_ne hj] at h ⊢
    exact s.at_ j y h
theorem StR.unset (s : StR c α R.length H σ σV) (i : Nat) : StR c α R.length H (σ.set i none) (σV.set i none) := by
  refine ⟨by rw [List.length_set, List.length_set]; exact s.len, fun j y h => ?_⟩
  by_cases hj : i = j
  · subst hj
    have hl : i < σ.length := by
      have := (List.getElem?_eq_some_iff.mp h).1
      rw [List.length_set] at this; exact this
    rw [List.getElem?_set_self hl] at h
    cases h
  · rw [List.getElem?_set_ne hj] at h ⊢
    exact s.at_ j y h
theorem StR.wipe (s : StR c α R.length H σ σV) : ∀ own : List Nat, StR c α R.length H (wipeT σ own) (L2.wipe σV own)
  | [] => s
  | v :: vs => (StR.wipe s vs).unset v
end
abbrev Cf.k (f : Cf) (N : Addr → Prop) : Kc := f.c.w N
/-- the wish about errors at slots σV -/
abbrev Cf.Eat (f : Cf) (σV : L2.St) : Ex0 := fun k d H' => f.E k d σV H'
/-- what a state is to an evaluation that gives r -/
def At (f : Cf) {β γ : Type} (rel : Kc → Rel β γ) (r : Slots → Rs → Rz β) (σV : L2.St) (H : Hp) (Q : γ → Hp → Prop) : Prop :=
  ∃ N σ α R, f.n0 ≤ R.length ∧ StR (f.k N) α R.length H σ σV ∧ SR (f.k N) α R H ∧ Post (f.k N) (rel (f.k N)) f.n0 α R H (r σ R) Q (f.Eat σV)
def tE (f : Cf) (e : Ex) : TE := fun σV H Q => At f Rep (evE f.G f.n0 e) σV H Q
def tA (f : Cf) (es : Exs) : TA := fun σV H Q => At f Reps (evs f.G f.n0 es) σV H Q
def tO (f : Cf) (e : Ox) : TO := fun σV H Q => At f (fun _ _ _ _ a b => a = b) (evO f.G f.n0 e) σV H Q
/-- an expression's truth -/
def evB (G : Ga) (n0 : Nat) (e : Ex) (σ : Slots) (R : Rs) : Rz Bool := (evE G n0 e σ R).bind fun x R1 => ofO (truV R1 x) R1
def tT (f : Cf) (e : Ex) : TT := fun σV H Q => At f (fun _ _ _ _ a b => a = b) (evB f.G f.n0 e) σV H Q
section
variable {f : Cf} {X : Cx} {β γ δ ε : Type} {rel : Kc → Rel β γ} {rel2 : Kc → Rel δ ε} {σV : L2.St} {H : Hp}
/-- first a, then g -/
theorem At.bind {r : Slots → Rs → Rz δ} {a : Slots → Rs → Rz β} {g : Slots → β → Rs → Rz δ} {Q : ε → Hp → Prop} (he : ∀ σ R, r σ R = (a σ R).bind (g σ)) (h : At f rel2 r σV H Q) :
    At f rel a σV H fun x H1 => ∃ N σ α R b, f.n0 ≤ R.length ∧ StR (f.k N) α R.length H1 σ σV ∧ SR (f.k N) α R H1 ∧ rel (f.k N) α R.length H1 b x ∧ Post (f.k N) (rel2 (f.k N)) f.n0 α R H1 (g σ b R) Q (f.Eat σV) := by
  obtain ⟨N, σ, α, R, hn, hs, S, h⟩ := h
  rw [he] at h
  refine ⟨N, σ, α, R, hn, hs, S, (Post.bind h).mono ?_⟩
  rintro x H1 ⟨α1, R1, b, L1, S1, r1, p⟩
  exact ⟨N, σ, α1, R1, b, Nat.le_trans hn L1.len, hs.later L1, S1, r1, p⟩
theorem At.same {r r' : Slots → Rs → Rz β} {Q : γ → Hp → Prop} (he : ∀ σ R, r σ R = r' σ R) (h : At f rel r σV H Q) : At f rel r' σV H Q := by
  obtain ⟨N, σ, α, R, hn, hs, S, h⟩ := h
  exact ⟨N, σ, α, R, hn, hs, S, by rw [← he]; exact h⟩
end
theorem PEx.imp {X : Cx} {e : Expr} {t t' : TE} (h : PE X e t) (i : ∀ σ H Q, t' σ H Q → t σ H Q) : PE X e t' := ⟨fun pins s σ H Q I q => h.run pins s σ H Q I (i σ H Q q)⟩
theorem PTx.imp {X : Cx} {e : Expr} {t t' : TT} (h : PT X e t) (i : ∀ σ H Q, t' σ H Q → t σ H Q) : PT X e t' := ⟨fun pins s σ H Q I q => h.run pins s σ H Q I (i σ H Q q)⟩
section
variable {f : Cf} {X : Cx} {a b e : Expr} {ia ib ie : Ex} {pos : Pos} {β γ : Type} {rel : Kc → Rel β γ} {σV : L2.St} {H : Hp}
theorem q_var {i : Nat} (h : PE X e (tVar i)) : PE X e (tE f (.var i)) := PEx.imp h fun σV H Q ⟨N, σ, α, R, hn, hs, S, p⟩ => by
  have e : evE f.G f.n0 (.var i) σ R = match σ[i]? with | some (some v) => .ok v R | _ => .no := by first | rfl | rw [evE]
  rw [e] at p
  cases q : σ[i]? with
  | none => rw [q] at p; exact False.elim p
  | some o =>
    cases o with
    | none => rw [q] at p; exact False.elim p
    | some x =>
      rw [q] at p
      obtain ⟨v, h1, h2⟩ := hs.at_ i x q
      exact ⟨v, h1, p.ok S h2⟩
/-- a constant, of the text or of the module -/
theorem q_cst {t : TV} {v : V} (h : PE X e (tC v)) (r : ∀ N α n H, Rep (f.k N) α n H t v) : PE X e (tE f (.cst t)) := PEx.imp h fun σV H Q ⟨N, σ, α, R, hn, hs, S, p⟩ => by
  have e : evE f.G f.n0 (.cst t) σ R = .ok t R := by first | rfl | rw [evE]
  rw [e] at p
  exact p.ok S (r _ _ _ _)
/-- two parts, then an operation on their values -/
theorem At.two' {r : Slots → Rs → Rz β} {g : TV → TV → Rs → Rz β} {Q : γ → Hp → Prop} (he : ∀ σ R, r σ R = (evE f.G f.n0 ia σ R).bind fun x R1 => (evE f.G f.n0 ib σ R1).bind fun y R2 => g x y R2)
    (h : At f rel r σV H Q) : tE f ia σV H fun x H1 => tE f ib σV H1 fun y H2 => ∃ N α R tx ty, f.n0 ≤ R.length ∧ SR (f.k N) α R H2 ∧ Rep (f.k N) α R.length H2 tx x ∧ Rep (f.k N) α R.length H2 ty y ∧ Post (f.k N) (rel (f.k N)) f.n0 α R H2 (g tx ty R) Q (f.Eat σV) := by
  obtain ⟨N, σ, α, R, hn, hs, S, h⟩ := h
  rw [he] at h
  refine ⟨N, σ, α, R, hn, hs, S, (Post.bind h).mono ?_⟩
  rintro x H1 ⟨α1, R1, tx, L1, S1, r1, p⟩
  refine ⟨N, σ, α1, R1, Nat.le_trans hn L1.len, hs.later L1, S1, (Post.bind p).mono ?_⟩
  rintro y H2 ⟨α2, R2, ty, L2, S2, r2, p2⟩
  exact ⟨N, α2, R2, tx, ty, Nat.le_trans (Nat.le_trans hn L1.len) L2.len, S2, r1.later L2, r2, p2⟩
theorem At.two {r : Slots → Rs → Rz TV} {g : TV → TV → Rs → Rz TV} {Q : VK} (he : ∀ σ R, r σ R = (evE f.G f.n0 ia σ R).bind fun x R1 => (evE f.G f.n0 ib σ R1).bind fun y R2 => g x y R2)
    (h : At f Rep r σV H Q) : tE f ia σV H fun x H1 => tE f ib σV H1 fun y H2 => rEv2 f.c f.n0 (f.Eat σV) g x y H2 Q := At.two' he h
/-- weaker wishes -/
theorem tE_mono {e : Ex} {Q Q' : VK} (h : tE f e σV H Q) (q : ∀ x H', Q x H' → Q' x H') : tE f e σV H Q' := by
  obtain ⟨N, σ, α, R, hn, hs, S, p⟩ := h
  exact ⟨N, σ, α, R, hn, hs, S, p.mono q⟩
theorem q_bin (xo : Xo f.c X) {op : Operator} (r : Bool) (ha : PE X a (tE f ia)) (hb : PE X b (tE f ib)) : PE X (.BinOp a op b pos) (tE f (.bin op r ia ib)) :=
  ⟨fun pins s σV H Q I h => (pe_op (op_Bin xo op r (E := f.Eat σV)) ha hb).run pins s σV H Q I (At.two (fun σ R => by first | rfl | rw [evE]) h)⟩
theorem q_cmp (xo : Xo f.c X) {op : CmpOp} (ha : PE X a (tE f ia)) (hb : PE X b (tE f ib)) (hm : behindInMarks op b = false) : PE X (.Compare a [op] [b] pos) (tE f (.cmp op ia ib)) :=
  ⟨fun pins s σV H Q I h => (pe_cmpR (op_Cmp xo op (E := f.Eat σV)) ha hb hm).run pins s σV H Q I (At.two (fun σ R => by first | rfl | rw [evE]) h)⟩
theorem q_neg (ha : PE X a (tE f ia)) : PE X (.UnaryOp .USub a pos) (tE f (.neg ia)) := PEx.imp (pe_un un_neg ha) fun σV H Q h => by
  obtain ⟨N, σ, α, R, hn, hs, S, h⟩ := h
  have e : evE f.G f.n0 (.neg ia) σ R = (evE f.G f.n0 ia σ R).bind fun x R1 => match x with
    | .int i => .ok (.int (-i)) R1
    | _ => .no := by first | rfl | rw [evE]
  rw [e] at h
  refine ⟨N, σ, α, R, hn, hs, S, (Post.bind h).mono ?_⟩
  rintro x H1 ⟨α1, R1, tx, L1, S1, r1, p⟩
  cases tx with
  | int i => cases r1; exact ⟨i, rfl, p.ok S1 (.int _)⟩
  | _ => exact False.elim p
/-- the truth of a value, by evaluation -/
theorem q_truth (xo : Xo f.c X) (ha : PE X a (tE f ia)) (he : ∀ whole, isTrue a X.env whole = (do let v ← whole; standAt a.pos; holding [v] (truthy v))) : PT X a (tT f ia) := PTx.imp (pt_truth ha he) fun σV H Q h => by
  obtain ⟨N, σ, α, R, hn, hs, S, h⟩ := h
  refine ⟨N, σ, α, R, hn, hs, S, (Post.bind (rel := Rep (f.k N)) h).mono ?_⟩
  rintro x H1 ⟨α1, R1, tx, L1, S1, r1, p⟩
  obtain ⟨k, e, p⟩ := Post.ofO p
  exact ⟨k, tru_V (xo.w N) S1 r1 e, p.ok S1 rfl⟩
/-- a comparison as a test -/
theorem q_cmpT (xo : Xo f.c X) {op : CmpOp} (ha : PE X a (tE f ia)) (hb : PE X b (tE f ib)) (hm : behindInMarks op b = false) : PT X (.Compare a [op] [b] pos) (tT f (.cmp op ia ib)) :=
  ⟨fun pins s σV H Q I h => by
    refine (pt_cmpR (op_Cmp xo op (n0 := f.n0) (E := f.Eat σV)) ha hb hm).run pins s σV H Q I ?_
    show tE f ia σV H fun x H1 => tE f ib σV H1 fun y H2 => rEv2 f.c f.n0 (f.Eat σV) (fun x y R => ofO ((cmpV op x y R).map .bl) R) x y H2 fun x H' => ∃ k, x = .bl k ∧ Q k H'
    have h2 := At.two' (ia := ia) (ib := ib) (g := fun x y R => ofO (cmpV op x y R) R) (r := evB f.G f.n0 (.cmp op ia ib)) (fun σ R => by
      have e : evE f.G f.n0 (.cmp op ia ib) σ R = (evE f.G f.n0 ia σ R).bind fun x R1 => (evE f.G f.n0 ib σ R1).bind fun y R2 => ofO ((cmpV op x y R2).map .bl) R2 := by rw [evE]
      unfold evB
      rw [e]
      cases evE f.G f.n0 ia σ R with
      | ok x R1 =>
        simp only [Rz.bind_ok]
        cases evE f.G f.n0 ib σ R1 with
        | ok y R2 =>
          simp only [Rz.bind_ok]
          cases cmpV op x y R2 <;> rfl
        | exc _ _ _ => rfl
        | no => rfl
      | exc _ _ _ => rfl
      | no => rfl) h
    refine tE_mono h2 fun x H1 h3 => tE_mono h3 fun y H2 h4 => ?_
    obtain ⟨N, α, R, tx, ty, hn, S, r1, r2, p⟩ := h4
    refine ⟨N, α, R, tx, ty, hn, S, r1, r2, ?_⟩
    obtain ⟨b, hb, p⟩ := Post.ofO p
    show Post (f.k N) (Rep (f.k N)) f.n0 α R H2 (ofO ((cmpV op tx ty R).map .bl) R) _ _
    rw [hb]
    intro α' H' g L S' r
    cases r
    exact ⟨b, rfl, p α' H' b L S' rfl⟩⟩
end
end Pv

/-! E7: chains, and, or, not, displays, items, slices, built-in calls. -/
namespace Pv
open PySem PySem.Spec PyProof.Rows L2
section
variable {f : Cf} {X : Cx} {a b d e : Expr} {es : List Expr} {ia ib id ie : Ex} {ies : Exs} {pos : Pos} {σV : L2.St} {H : Hp}
theorem q_chn (xo : Xo f.c X) {op op' : CmpOp} (ha : PE X a (tE f ia)) (hb : PE X b (tE f ib)) (hd : PE X d (tE f id)) (hm : lastMarks [op, op'] [b, d] = false) : PE X (.Compare a [op, op'] [b, d] pos) (tE f (.chn op op' ia ib id)) :=
  ⟨fun pins s σV H Q I h => by
    refine (pe_chain (op_Cmp xo op (n0 := f.n0) (E := f.Eat σV)) (op_Cmp xo op' (n0 := f.n0) (E := f.Eat σV)) ha hb hd hm).run pins s σV H Q I ?_
    have e1 : ∀ σ R, evE f.G f.n0 (.chn op op' ia ib id) σ R = (evE f.G f.n0 ia σ R).bind fun x R1 => (evE f.G f.n0 ib σ R1).bind fun y R2 => match cmpV op x y R2 with
      | some true => (evE f.G f.n0 id σ R2).bind fun z R3 => ofO ((cmpV op' y z R3).map .bl) R3
      | some false => .ok (.bl false) R2
      | none => .no := fun σ R => by rw [evE] <;> rfl
    obtain ⟨N, σ, α, R, hn, hs, S, p⟩ := h
    rw [e1] at p
    refine ⟨N, σ, α, R, hn, hs, S, (Post.bind p).mono ?_⟩
    rintro x H1 ⟨α1, R1, tx, L1, S1, r1, p⟩
    refine ⟨N, σ, α1, R1, Nat.le_trans hn L1.len, hs.later L1, S1, (Post.bind p).mono ?_⟩
    rintro y H2 ⟨α2, R2, ty, L2, S2, r2, p⟩
    have hn2 := Nat.le_trans (Nat.le_trans hn L1.len) L2.len
    refine ⟨N, α2, R2, tx, ty, hn2, S2, r1.later L2, r2, ?_⟩
    try dsimp only at p
    cases q : cmpV op tx ty R2 with
    | none => rw [q] at p; exact False.elim p
    | some k =>
      rw [q] at p
      show Post (f.k N) (Rep (f.k N)) f.n0 α2 R2 H2 (ofO ((cmpV op tx ty R2).map .bl) R2) _ _
      rw [q]
      intro α3 H3 z L3 S3 r3
      cases r3
      refine ⟨k, rfl, ?_⟩
      cases k with
      | false => rw [if_neg Bool.false_ne_true]; exact p α3 H3 _ L3 S3 (.bl false)
      | true =>
        rw [if_pos rfl]
        refine ⟨N, σ, α3, R2, hn2, (hs.later L1).later (L2.trans L3), S3, (Post.bind (p.later L3)).mono ?_⟩
        rintro z H4 ⟨α4, R4, tz, L4, S4, r4, p4⟩
        exact ⟨N, α4, R4, ty, tz, Nat.le_trans hn2 L4.len, S4, (r2.later L3).later L4, r4, p4⟩⟩
theorem q_and (xo : Xo f.c X) {rest : List Expr} (ha : PE X a (tE f ia)) (hb : PE X (.BoolOp .And (b :: rest) pos) (tE f ib)) : PE X (.BoolOp .And (a :: b :: rest) pos) (tE f (.and ia ib)) := PEx.imp (pe_andT ha hb) fun σV H Q h => by
  obtain ⟨N, σ, α, R, hn, hs, S, p⟩ := h
  have e1 : evE f.G f.n0 (.and ia ib) σ R = (evE f.G f.n0 ia σ R).bind fun x R1 => match truV R1 x with
    | some true => evE f.G f.n0 ib σ R1
    | some false => .ok x R1
    | none => .no := by rw [evE] <;> rfl
  rw [e1] at p
  refine ⟨N, σ, α, R, hn, hs, S, (Post.bind p).mono ?_⟩
  rintro x H1 ⟨α1, R1, tx, L1, S1, r1, p⟩
  try dsimp only at p
  cases q : truV R1 tx with
  | none => rw [q] at p; exact False.elim p
  | some k =>
    rw [q] at p
    refine ⟨k, tru_V (xo.w N) S1 r1 q, ?_⟩
    cases k with
    | true => rw [if_pos rfl]; exact ⟨N, σ, α1, R1, Nat.le_trans hn L1.len, hs.later L1, S1, p⟩
    | false => rw [if_neg Bool.false_ne_true]; exact p.ok S1 r1
theorem q_or (xo : Xo f.c X) {rest : List Expr} (ha : PE X a (tE f ia)) (hb : PE X (.BoolOp .Or (b :: rest) pos) (tE f ib)) : PE X (.BoolOp .Or (a :: b :: rest) pos) (tE f (.or ia ib)) := PEx.imp (pe_orT ha hb) fun σV H Q h => by
  obtain ⟨N, σ, α, R, hn, hs, S, p⟩ := h
  have e1 : evE f.G f.n0 (.or ia ib) σ R = (evE f.G f.n0 ia σ R).bind fun x R1 => match truV R1 x with
    | some false => evE f.G f.n0 ib σ R1
    | some true => .ok x R1
    | none => .no := by rw [evE] <;> rfl
  rw [e1] at p
  refine ⟨N, σ, α, R, hn, hs, S, (Post.bind p).mono ?_⟩
  rintro x H1 ⟨α1, R1, tx, L1, S1, r1, p⟩
  try dsimp only at p
  cases q : truV R1 tx with
  | none => rw [q] at p; exact False.elim p
  | some k =>
    rw [q] at p
    refine ⟨k, tru_V (xo.w N) S1 r1 q, ?_⟩
    cases k with
    | false => rw [if_neg Bool.false_ne_true]; exact ⟨N, σ, α1, R1, Nat.le_trans hn L1.len, hs.later L1, S1, p⟩
    | true => rw [if_pos rfl]; exact p.ok S1 r1
theorem q_one {op : BoolOp} (ha : PE X a (tE f ia)) : PE X (.BoolOp op [a] pos) (tE f ia) := pe_one ha
theorem q_not (xo : Xo f.c X) (ha : PE X a (tE f ia)) : PE X (.UnaryOp .Not a pos) (tE f (.not ia)) := PEx.imp (pe_notT ha) fun σV H Q h => by
  obtain ⟨N, σ, α, R, hn, hs, S, p⟩ := h
  have e1 : evE f.G f.n0 (.not ia) σ R = (evE f.G f.n0 ia σ R).bind fun x R1 => ofO ((truV R1 x).map fun b => .bl (!b)) R1 := by rw [evE]
  rw [e1] at p
  refine ⟨N, σ, α, R, hn, hs, S, (Post.bind p).mono ?_⟩
  rintro x H1 ⟨α1, R1, tx, L1, S1, r1, p⟩
  obtain ⟨t, et, p⟩ := Post.ofO p
  try dsimp only at p
  cases q : truV R1 tx with
  | none => rw [q] at et; cases et
  | some k => rw [q] at et; cases et; exact ⟨k, tru_V (xo.w N) S1 r1 q, p.ok S1 (.bl _)⟩
/-! ### tests -/
theorem evB_and {G : Ga} {n0 : Nat} {σ : Slots} {R : Rs} : evB G n0 (.and ia ib) σ R = (evB G n0 ia σ R).bind fun k R1 => match k with
    | true => evB G n0 ib σ R1
    | false => .ok false R1 := by
  unfold evB
  have e1 : evE G n0 (.and ia ib) σ R = (evE G n0 ia σ R).bind fun x R1 => match truV R1 x with
    | some true => evE G n0 ib σ R1
    | some false => .ok x R1
    | none => .no := by rw [evE] <;> rfl
  rw [e1]
  cases evE G n0 ia σ R with
  | ok x R1 =>
    simp only [Rz.bind_ok]
    cases q : truV R1 x with
    | none => rfl
    | some k =>
      cases k with
      | true => rfl
      | false => simp only [Rz.bind_ok, q]; rfl
  | exc _ _ _ => rfl
  | no => rfl
theorem evB_or {G : Ga} {n0 : Nat} {σ : Slots} {R : Rs} : evB G n0 (.or ia ib) σ R = (evB G n0 ia σ R).bind fun k R1 => match k with
    | false => evB G n0 ib σ R1
    | true => .ok true R1 := by
  unfold evB
  have e1 : evE G n0 (.or ia ib) σ R = (evE G n0 ia σ R).bind fun x R1 => match truV R1 x with
    | some false => evE G n0 ib σ R1
    | some true => .ok x R1
    | none => .no := by rw [evE] <;> rfl
  rw [e1]
  cases evE G n0 ia σ R with
  | ok x R1 =>
    simp only [Rz.bind_ok]
    cases q : truV R1 x with
    | none => rfl
    | some k =>
      cases k with
      | false => rfl
      | true => simp only [Rz.bind_ok, q]; rfl
  | exc _ _ _ => rfl
  | no => rfl
theorem evB_not {G : Ga} {n0 : Nat} {σ : Slots} {R : Rs} : evB G n0 (.not ia) σ R = (evB G n0 ia σ R).bind fun k R1 => .ok (!k) R1 := by
  unfold evB
  have e1 : evE G n0 (.not ia) σ R = (evE G n0 ia σ R).bind fun x R1 => ofO ((truV R1 x).map fun b => .bl (!b)) R1 := by rw [evE]
  rw [e1]
  cases evE G n0 ia σ R with
  | ok x R1 =>
    simp only [Rz.bind_ok]
    cases q : truV R1 x with
    | none => rfl
    | some k => rfl
  | exc _ _ _ => rfl
  | no => rfl
theorem tB_mid {f : Cf} {β γ : Type} {rel : Kc → Rel β γ} {g : Slots → Bool → Rs → Rz β} {r : Slots → Rs → Rz β} {Q : γ → Hp → Prop} (he : ∀ σ R, r σ R = (evB f.G f.n0 ia σ R).bind (g σ)) (h : At f rel r σV H Q) :
    tT f ia σV H fun k H1 => ∃ N σ α R, f.n0 ≤ R.length ∧ StR (f.k N) α R.length H1 σ σV ∧ SR (f.k N) α R H1 ∧ Post (f.k N) (rel (f.k N)) f.n0 α R H1 (g σ k R) Q (f.Eat σV) := by
  obtain ⟨N, σ, α, R, hn, hs, S, p⟩ := h
  rw [he] at p
  refine ⟨N, σ, α, R, hn, hs, S, (Post.bind p).mono ?_⟩
  rintro k H1 ⟨α1, R1, k', L1, S1, e, p⟩
  cases e
  exact ⟨N, σ, α1, R1, Nat.le_trans hn L1.len, hs.later L1, S1, p⟩
theorem q_one1 {op : BoolOp} (ha : PT X a (tT f ia)) : PW X (.BoolOp op [a] pos) (tT f ia) := by
  cases op with
  | And => exact pw_and1 ha
  | Or => exact pw_or1 ha
theorem PWx.imp {X : Cx} {e : Expr} {t t' : TT} (h : PW X e t) (i : ∀ σ H Q, t' σ H Q → t σ H Q) : PW X e t' := ⟨fun wh pins s σ H Q I q => h.run wh pins s σ H Q I (i σ H Q q)⟩
theorem q_andW {rest : List Expr} (ha : PT X a (tT f ia)) (hb : PW X (.BoolOp .And (b :: rest) pos) (tT f ib)) : PW X (.BoolOp .And (a :: b :: rest) pos) (tT f (.and ia ib)) := PWx.imp (pw_and ha hb) fun σV H Q h => by
  have h2 := tB_mid (ia := ia) (fun σ R => evB_and (ib := ib)) h
  obtain ⟨N, σ, α, R, hn, hs, S, p⟩ := h2
  refine ⟨N, σ, α, R, hn, hs, S, p.mono ?_⟩
  rintro k H1 ⟨N1, σ1, α1, R1, hn1, hs1, S1, p⟩
  cases k with
  | true => rw [if_pos rfl]; exact ⟨N1, σ1, α1, R1, hn1, hs1, S1, p⟩
  | false => rw [if_neg Bool.false_ne_true]; exact p.ok S1 rfl
theorem q_orW {rest : List Expr} (ha : PT X a (tT f ia)) (hb : PW X (.BoolOp .Or (b :: rest) pos) (tT f ib)) : PW X (.BoolOp .Or (a :: b :: rest) pos) (tT f (.or ia ib)) := PWx.imp (pw_or ha hb) fun σV H Q h => by
  have h2 := tB_mid (ia := ia) (fun σ R => evB_or (ib := ib)) h
  obtain ⟨N, σ, α, R, hn, hs, S, p⟩ := h2
  refine ⟨N, σ, α, R, hn, hs, S, p.mono ?_⟩
  rintro k H1 ⟨N1, σ1, α1, R1, hn1, hs1, S1, p⟩
  cases k with
  | false => rw [if_neg Bool.false_ne_true]; exact ⟨N1, σ1, α1, R1, hn1, hs1, S1, p⟩
  | true => rw [if_pos rfl]; exact p.ok S1 rfl
theorem q_notT (ha : PT X a (tT f ia)) : PT X (.UnaryOp .Not a pos) (tT f (.not ia)) := PTx.imp (pt_not ha) fun σV H Q h => by
  have h2 := tB_mid (ia := ia) (fun σ R => evB_not) h
  obtain ⟨N, σ, α, R, hn, hs, S, p⟩ := h2
  refine ⟨N, σ, α, R, hn, hs, S, p.mono ?_⟩
  rintro k H1 ⟨N1, σ1, α1, R1, hn1, hs1, S1, p⟩
  exact p.ok S1 rfl
theorem q_ifx {c : Expr} {ic : Ex} (hc : PT X c (tT f ic)) (ha : PE X a (tE f ia)) (hb : PE X b (tE f ib)) : PE X (.IfExp c a b pos) (tE f (.ifx ic ia ib)) := PEx.imp (pe_ifExp hc ha hb) fun σV H Q h => by
  have e1 : ∀ σ R, evE f.G f.n0 (.ifx ic ia ib) σ R = (evB f.G f.n0 ic σ R).bind fun k R1 => match k with
    | true => evE f.G f.n0 ia σ R1
    | false => evE f.G f.n0 ib σ R1 := fun σ R => by
    have e0 : evE f.G f.n0 (.ifx ic ia ib) σ R = (evE f.G f.n0 ic σ R).bind fun x R1 => match truV R1 x with
      | some true => evE f.G f.n0 ia σ R1
      | some false => evE f.G f.n0 ib σ R1
      | none => .no := by rw [evE] <;> rfl
    rw [e0]
    unfold evB
    cases evE f.G f.n0 ic σ R with
    | ok x R1 =>
      simp only [Rz.bind_ok]
      cases truV R1 x with
      | none => rfl
      | some k => cases k <;> rfl
    | exc _ _ _ => rfl
    | no => rfl
  have h2 := tB_mid (ia := ic) e1 h
  obtain ⟨N, σ, α, R, hn, hs, S, p⟩ := h2
  refine ⟨N, σ, α, R, hn, hs, S, p.mono ?_⟩
  rintro k H1 ⟨N1, σ1, α1, R1, hn1, hs1, S1, p⟩
  cases k with
  | true => rw [if_pos rfl]; exact ⟨N1, σ1, α1, R1, hn1, hs1, S1, p⟩
  | false => rw [if_neg Bool.false_ne_true]; exact ⟨N1, σ1, α1, R1, hn1, hs1, S1, p⟩
theorem q_chnT (xo : Xo f.c X) {op op' : CmpOp} (ha : PE X a (tE f ia)) (hb : PE X b (tE f ib)) (hd : PE X d (tE f id)) (hm : lastMarks [op, op'] [b, d] = false) : PT X (.Compare a [op, op'] [b, d] pos) (tT f (.chn op op' ia ib id)) :=
  ⟨fun pins s σV H Q I h => by
    refine (pt_chain (op_Cmp xo op (n0 := f.n0) (E := f.Eat σV)) (op_Cmp xo op' (n0 := f.n0) (E := f.Eat σV)) ha hb hd hm).run pins s σV H Q I ?_
    have e1 : ∀ σ R, evB f.G f.n0 (.chn op op' ia ib id) σ R = (evE f.G f.n0 ia σ R).bind fun x R1 => (evE f.G f.n0 ib σ R1).bind fun y R2 => match cmpV op x y R2 with
      | some true => (evE f.G f.n0 id σ R2).bind fun z R3 => ofO (cmpV op' y z R3) R3
      | some false => .ok false R2
      | none => .no := fun σ R => by
      unfold evB
      have e0 : evE f.G f.n0 (.chn op op' ia ib id) σ R = (evE f.G f.n0 ia σ R).bind fun x R1 => (evE f.G f.n0 ib σ R1).bind fun y R2 => match cmpV op x y R2 with
        | some true => (evE f.G f.n0 id σ R2).bind fun z R3 => ofO ((cmpV op' y z R3).map .bl) R3
        | some false => .ok (.bl false) R2
        | none => .no := by rw [evE] <;> rfl
      rw [e0]
      cases evE f.G f.n0 ia σ R with
      | ok x R1 =>
        simp only [Rz.bind_ok]
        cases evE f.G f.n0 ib σ R1 with
        | ok y R2 =>
          simp only [Rz.bind_ok]
          cases cmpV op x y R2 with
          | none => rfl
          | some k =>
            cases k with
            | false => rfl
            | true =>
              show ((evE f.G f.n0 id σ R2).bind fun z R3 => ofO ((cmpV op' y z R3).map TV.bl) R3).bind _ = (evE f.G f.n0 id σ R2).bind _
              cases evE f.G f.n0 id σ R2 with
              | ok z R3 =>
                simp only [Rz.bind_ok]
                cases cmpV op' y z R3 <;> rfl
              | exc _ _ _ => rfl
              | no => rfl
        | exc _ _ _ => rfl
        | no => rfl
      | exc _ _ _ => rfl
      | no => rfl
    obtain ⟨N, σ, α, R, hn, hs, S, p⟩ := h
    rw [e1] at p
    refine ⟨N, σ, α, R, hn, hs, S, (Post.bind p).mono ?_⟩
    rintro x H1 ⟨α1, R1, tx, L1, S1, r1, p⟩
    refine ⟨N, σ, α1, R1, Nat.le_trans hn L1.len, hs.later L1, S1, (Post.bind p).mono ?_⟩
    rintro y H2 ⟨α2, R2, ty, L2, S2, r2, p⟩
    have hn2 := Nat.le_trans (Nat.le_trans hn L1.len) L2.len
    refine ⟨N, α2, R2, tx, ty, hn2, S2, r1.later L2, r2, ?_⟩
    try dsimp only at p
    cases q : cmpV op tx ty R2 with
    | none => rw [q] at p; exact False.elim p
    | some k =>
      rw [q] at p
      show Post (f.k N) (Rep (f.k N)) f.n0 α2 R2 H2 (ofO ((cmpV op tx ty R2).map .bl) R2) _ _
      rw [q]
      intro α3 H3 z L3 S3 r3
      cases r3
      refine ⟨k, rfl, ?_⟩
      cases k with
      | false => rw [if_neg Bool.false_ne_true]; exact ⟨false, rfl, p α3 H3 _ L3 S3 rfl⟩
      | true =>
        rw [if_pos rfl]
        refine ⟨N, σ, α3, R2, hn2, (hs.later L1).later (L2.trans L3), S3, (Post.bind (p.later L3)).mono ?_⟩
        rintro z H4 ⟨α4, R4, tz, L4, S4, r4, p4⟩
        refine ⟨N, α4, R4, ty, tz, Nat.le_trans hn2 L4.len, S4, (r2.later L3).later L4, r4, ?_⟩
        obtain ⟨k2, e2, p4⟩ := Post.ofO p4
        show Post (f.k N) (Rep (f.k N)) f.n0 α4 R4 H4 (ofO ((cmpV op' ty tz R4).map .bl) R4) _ _
        rw [e2]
        intro α5 H5 z5 L5 S5 r5
        cases r5
        exact ⟨k2, rfl, p4 α5 H5 _ L5 S5 rfl⟩⟩
/-! ### argument lists, displays -/
theorem q_nil : PA X [] (tA f .nil) := ⟨fun pos pins s σ H Q I h => pa_nil.run pos pins s σ H Q I (by
  obtain ⟨N, σ, α, R, hn, hs, S, p⟩ := h
  have e1 : evs f.G f.n0 .nil σ R = .ok [] R := by rw [evs]
  rw [e1] at p
  exact p.ok S .nil)⟩
theorem PAx.imp {X : Cx} {es : List Expr} {t t' : TA} (h : PA X es t) (i : ∀ σ H Q, t' σ H Q → t σ H Q) : PA X es t' := ⟨fun pos pins s σ H Q I q => h.run pos pins s σ H Q I (i σ H Q q)⟩
theorem q_cons (he : PE X e (tE f ie)) (hr : PA X es (tA f ies)) (hs : starEach (e :: es) X.env = (false, eval e X.env) :: starEach es X.env) : PA X (e :: es) (tA f (.cons ie ies)) := PAx.imp (pa_cons he hr hs) fun σV H Q h => by
  obtain ⟨N, σ, α, R, hn, hs, S, p⟩ := h
  have e1 : evs f.G f.n0 (.cons ie ies) σ R = (evE f.G f.n0 ie σ R).bind fun x R1 => (evs f.G f.n0 ies σ R1).bind fun xs R2 => .ok (x :: xs) R2 := by rw [evs]
  rw [e1] at p
  refine ⟨N, σ, α, R, hn, hs, S, (Post.bind p).mono ?_⟩
  rintro x H1 ⟨α1, R1, tx, L1, S1, r1, p⟩
  refine ⟨N, σ, α1, R1, Nat.le_trans hn L1.len, hs.later L1, S1, (Post.bind (rel := Reps (f.k N)) p).mono ?_⟩
  rintro y H2 ⟨α2, R2, ty, L2, S2, r2, p⟩
  exact p.ok S2 (.cons (r1.later L2) r2)
theorem At.args {r : Slots → Rs → Rz TV} {g : List TV → Rs → Rz TV} {Q : VK} (he : ∀ σ R, r σ R = (evs f.G f.n0 ies σ R).bind fun vs R1 => g vs R1) (h : At f Rep r σV H Q) : tA f ies σV H fun vs H1 => rEvL f.c f.n0 (f.Eat σV) g vs H1 Q := by
  obtain ⟨N, σ, α, R, hn, hs, S, p⟩ := h
  rw [he] at p
  refine ⟨N, σ, α, R, hn, hs, S, (Post.bind p).mono ?_⟩
  rintro x H1 ⟨α1, R1, tx, L1, S1, r1, p⟩
  exact ⟨N, α1, R1, tx, Nat.le_trans hn L1.len, S1, r1, p⟩
theorem q_lst (r : Bool) (h : PA X es (tA f ies)) : PE X (.List es pos) (tE f (.lst r ies)) := PEx.imp (pe_lst h) fun σV H Q h => by
  have h2 := At.args (ies := ies) (g := fun vs R1 => guardR (decide (vs.length ≤ sizeLine)) (alloc r (.lst vs) R1)) (fun σ R => by rw [evE]) h
  obtain ⟨N, σ, α, R, hn, hs, S, p⟩ := h2
  refine ⟨N, σ, α, R, hn, hs, S, p.mono ?_⟩
  rintro vs H1 ⟨N1, α1, R1, ts, hn1, S1, r1, p⟩
  obtain ⟨hz, p⟩ := Post.guard p
  exact ⟨r1.length ▸ of_decide_eq_true hz, fun q hq => alloc_ok p S1 hn1 hq ⟨_, rfl, r1⟩⟩
theorem q_tup {k : Nat} (h : PA X es (tA f ies)) : PE X (.Tuple es k pos) (tE f (.tup ies)) := PEx.imp (pe_tup h) fun σV H Q h => by
  have h2 := At.args (ies := ies) (g := fun vs R1 => guardR (decide (vs.length ≤ sizeLine)) (.ok (.tup vs) R1)) (fun σ R => by rw [evE]) h
  obtain ⟨N, σ, α, R, hn, hs, S, p⟩ := h2
  refine ⟨N, σ, α, R, hn, hs, S, p.mono ?_⟩
  rintro vs H1 ⟨N1, α1, R1, ts, hn1, S1, r1, p⟩
  obtain ⟨hz, p⟩ := Post.guard p
  exact ⟨r1.length ▸ of_decide_eq_true hz, fun q hq => tup_ok p S1 hq r1⟩
theorem q_dct (r : Bool) : PE X (.Dict [] [] pos) (tE f (.dct r)) := PEx.imp pe_dnewK fun σV H Q h => by
  obtain ⟨N, σ, α, R, hn, hs, S, p⟩ := h
  have e1 : evE f.G f.n0 (.dct r) σ R = alloc r (.dct []) R := by rw [evE]
  rw [e1] at p
  exact fun q hq => alloc_ok p S hn hq ⟨_, rfl, .nil⟩
/-! ### calls of built-in functions -/
theorem q_bi (xo : Xo f.c X) {b : Bi} (r : Bool) (run : ∀ rr, CallR X (fnBi b) rr → PE X e (fun σ H Q => tA f ies σ H fun vs H1 => rr vs H1 Q)) : PE X e (tE f (.bi b r ies)) :=
  ⟨fun pins s σV H Q I h => (run _ (call_Bi xo b r (n0 := f.n0) (E := f.Eat σV))).run pins s σV H Q I (At.args (fun σ R => by rw [evE]) h)⟩
/-! ### items -/
theorem find_map {kvs : List (Key × TV)} {k : Key} {t : TV} (h : (kvs.find? fun kv => decide (kv.1 = k)).map (·.2) = some t) {c : Kc} {α : Nat → Addr} {n : Nat} {H : Hp} {vs : List (Key × V)} (r : RepK c α n H kvs vs) : ∃ v, valV vs k = some v ∧ Rep c α n H t v := (r.find (k := k)).1 t h
theorem atI_reps {c : Kc} {α : Nat → Addr} {n : Nat} {H : Hp} {xs : List TV} {vs : List V} {i : Int} {t : TV} (r : Reps c α n H xs vs) (h : atI xs i = some t) : ∃ v, atI vs i = some v ∧ Rep c α n H t v := by
  unfold atI at h ⊢
  rw [← r.length]
  cases q : ixN xs.length i with
  | none => rw [q] at h; cases h
  | some j => rw [q] at h; exact r.get h
theorem q_sub (xo : Xo f.c X) (ha : PE X a (tE f ia)) (hb : PE X b (tE f ib)) (hs : PlainIx b) : PE X (.Subscript a b pos) (tE f (.sub ia ib)) :=
  ⟨fun pins s σV H Q I h => by
    have hu := xo.hu
    have h2 := At.two' (ia := ia) (ib := ib) (g := fun x y R => ofO (ixV R x y) R) (fun σ R => by rw [evE]) h
    -- a rule for each kind of receiver, joined
    let rD : R2 := fun x y H Q => ∃ a v, x = .ref a ∧ DGet H a y (some v) ∧ Q v H
    have ixD : IxR X rD := by
      intro value slice pins s σ H x y v u Q I rx ry ⟨a, w', ex, g, q⟩ hsub
      subst ex
      obtain rfl : v = Value.ref a := rx
      exact tail_any (dict_typeIs I g) PySem.F.slot_dict_getitem.lookup (d_getItem (by omega) I g ry fun w2 s3 I3 rw' => ⟨w', H, I3, rw', q⟩) hsub
    refine (pe_ix (IxR.or (ix_seq (X := X)) ixD) ha hb hs).run pins s σV H Q I ?_
    refine tE_mono h2 fun x H1 h3 => tE_mono h3 fun y H2 h4 => ?_
    obtain ⟨N, α, R, tx, ty, hn, S, r1, r2, p0⟩ := h4
    obtain ⟨t, et, p⟩ := Post.ofO p0
    clear p0
    have seq : ∀ (xs : List TV) (i : Int), asL R tx = some xs → atI xs i = some t → y = .int i → rIx X.K x y H2 Q ∨ rD x y H2 Q := fun xs i e1 e2 e3 => by
      obtain ⟨a, vs, rfl, ha, ra⟩ := asL_ok S r1 e1
      obtain ⟨v, h1, h2⟩ := atI_reps ra e2
      exact .inl (.inl ⟨a, vs, i, v, rfl, e3, xo.K ▸ ha, h1, p.ok S h2⟩)
    have dct : ∀ (kvs : List (Key × TV)) (k : Key), asD R tx = some kvs → (kvs.find? fun kv => decide (kv.1 = k)).map (·.2) = some t → y = kV k → rIx X.K x y H2 Q ∨ rD x y H2 Q := fun kvs k e1 e2 e3 => by
      obtain ⟨a, vs, rfl, ha, ra⟩ := asD_ok S r1 e1
      obtain ⟨v, h1, h2⟩ := find_map e2 ra
      refine .inr ⟨a, v, rfl, ?_, p.ok S h2⟩
      rw [e3, ← h1]
      exact DGet.k ha
    cases ty with
    | int i =>
      have e3 := int_inv r2
      have gen : (match asL R tx with
        | some xs => atI xs i
        | none => match asD R tx with
          | some kvs => (kvs.find? fun kv => decide (kv.1 = .inl i)).map (·.2)
          | none => none) = some t → rIx X.K x y H2 Q ∨ rD x y H2 Q := fun et => by
        cases q : asL R tx with
        | some xs => rw [q] at et; exact seq xs i q et e3
        | none =>
          rw [q] at et
          cases q2 : asD R tx with
          | none => rw [q2] at et; cases et
          | some kvs => rw [q2] at et; exact dct kvs (.inl i) q2 et e3
      cases tx with
      | str z =>
        cases r1
        obtain ⟨hz, et⟩ := guardO_some et
        cases q : atI z.cps.toList i with
        | none => rw [q] at et; cases et
        | some k => rw [q] at et; cases et; exact .inl (.inr (.inr ⟨z, i, k, rfl, e3, of_decide_eq_true hz, q, p.ok S (.str _)⟩))
      | tup xs =>
        obtain ⟨a, vs, rfl, ha, ra⟩ := tup_inv r1
        obtain ⟨v, h1, h2⟩ := atI_reps ra et
        exact .inl (.inr (.inl ⟨a, vs, i, v, rfl, e3, xo.K ▸ ha, h1, p.ok S h2⟩))
      | _ => exact gen et
    | str z =>
      have e3 := str_inv r2
      have et' : (match asD R tx with
        | some kvs => (kvs.find? fun kv => decide (kv.1 = .inr z)).map (·.2)
        | none => none) = some t := et
      cases q2 : asD R tx with
      | none => rw [q2] at et'; cases et'
      | some kvs => rw [q2] at et'; exact dct kvs (.inr z) q2 et' e3
    | _ => cases et⟩
theorem po_non : PO X none (tO f .none) := ⟨fun pins s σ H Q I h => po_none.run pins s σ H Q I (by
  obtain ⟨N, σ, α, R, hn, hs, S, p⟩ := h
  have e1 : evO f.G f.n0 .none σ R = .ok none R := by rw [evO]
  rw [e1] at p
  exact p.ok S rfl)⟩
theorem po_som (he : PE X e (tE f ie)) : PO X (some e) (tO f (.some ie)) := ⟨fun pins s σ H Q I h => (po_some he).run pins s σ H Q I (by
  obtain ⟨N, σ, α, R, hn, hs, S, p⟩ := h
  have e1 : evO f.G f.n0 (.some ie) σ R = (evE f.G f.n0 ie σ R).bind fun x R1 => match x with
    | .int i => .ok (some i) R1
    | _ => .no := by rw [evO] <;> rfl
  rw [e1] at p
  refine ⟨N, σ, α, R, hn, hs, S, (Post.bind p).mono ?_⟩
  rintro x H1 ⟨α1, R1, tx, L1, S1, r1, p⟩
  cases tx with
  | int i => cases r1; exact ⟨i, rfl, p.ok S1 rfl⟩
  | _ => exact False.elim p)⟩
theorem cut_reps {c : Kc} {α : Nat → Addr} {n : Nat} {H : Hp} {xs : List TV} {vs : List V} (r : Reps c α n H xs vs) (lo hi : Option Int) : Reps c α n H (cutA xs lo hi) (cutV vs lo hi) := by
  unfold cutA cutV
  rw [← r.length]
  exact (r.drop _).take _
theorem q_slc (xo : Xo f.c X) (r : Bool) {lo hi : Option Expr} {il ih : Ox} {p2 : Pos} (ha : PE X a (tE f ia)) (hl : PO X lo (tO f il)) (hh : PO X hi (tO f ih)) : PE X (.Subscript a (.Slice lo hi none p2) pos) (tE f (.slc r ia il ih)) :=
  PEx.imp (pe_slice (SlR.or (SlR.or sl_str sl_list) sl_tupA) ha hl hh) fun σV H Q h => by
    obtain ⟨N, σ, α, R, hn, hs, S, p⟩ := h
    have e1 : evE f.G f.n0 (.slc r ia il ih) σ R = (evE f.G f.n0 ia σ R).bind fun x R1 => (evO f.G f.n0 il σ R1).bind fun l R2 => (evO f.G f.n0 ih σ R2).bind fun h R3 => slcV r x l h R3 := by rw [evE]
    rw [e1] at p
    refine ⟨N, σ, α, R, hn, hs, S, (Post.bind p).mono ?_⟩
    rintro x H1 ⟨α1, R1, tx, L1, S1, r1, p⟩
    refine ⟨N, σ, α1, R1, Nat.le_trans hn L1.len, hs.later L1, S1, (Post.bind (rel := fun _ _ _ a b => a = b) p).mono ?_⟩
    rintro l H2 ⟨α2, R2, l', L2, S2, e2, p⟩
    cases e2
    have hn2 := Nat.le_trans (Nat.le_trans hn L1.len) L2.len
    refine ⟨N, σ, α2, R2, hn2, (hs.later L1).later L2, S2, (Post.bind (rel := fun _ _ _ a b => a = b) p).mono ?_⟩
    rintro h H3 ⟨α3, R3, h', L3, S3, e3, p⟩
    cases e3
    have r3 := (r1.later L2).later L3
    have hn3 := Nat.le_trans hn2 L3.len
    have gen : Post (f.k N) (Rep (f.k N)) f.n0 α3 R3 H3 (match asL R3 tx with
      | some xs => alloc r (.lst (cutA xs l h)) R3
      | none => .no) Q (f.Eat σV) → rSlL X.K x l h H3 Q := fun p => by
      try dsimp only at p
      cases q : asL R3 tx with
      | none => rw [q] at p; exact False.elim p
      | some xs =>
        rw [q] at p
        obtain ⟨a, vs, rfl, ha, ra⟩ := asL_ok S3 r3 q
        exact ⟨a, vs, rfl, xo.K ▸ ha, fun z hz => alloc_ok p S3 hn3 hz ⟨_, rfl, cut_reps ra l h⟩⟩
    cases tx with
    | str z =>
      have e4 := str_inv r3
      obtain ⟨hz, p⟩ := Post.guard p
      exact .inl (.inl ⟨z, e4, of_decide_eq_true hz, p.ok S3 (.str _)⟩)
    | tup xs =>
      obtain ⟨a, vs, rfl, ha, ra⟩ := tup_inv r3
      have hlen := ra.length
      refine .inr ⟨a, vs, rfl, xo.K ▸ ha, fun hw => ?_, fun hw q hq => tup_ok p S3 hq (cut_reps ra l h)⟩
      refine p.ok S3 ?_
      have e5 : cutA xs l h = xs := by
        unfold cutA
        rw [hlen, hw.1, hw.2, List.drop_zero, Nat.sub_zero, ← hlen, List.take_length]
      rw [e5]
      exact r3
    | _ => exact .inl (.inr (gen p))
end
end Pv

/-! E8: defs called (with no repr running), classes made, isinstance, fields. -/
namespace Pv
open PySem PySem.Spec PyProof.Rows L2

/-- a def's promise, where no repr runs -/
structure FnG (P : Program) (w : World) (K : PySem.W.Frag) (mg : Str → Option Value) (base : Heap) (k : Nat) (f : Addr) (fd : FuncData) (ps : List Str) (sp : Sp) : Prop where
  len : ∀ vs H Q E, sp vs H Q E → vs.length = ps.length
  run : ∀ (A : Around) (outer : List Env) (s : Shared) (H : Hp) (args : Args) (us : List Value) (vs : List V) (Q : VK) (E : XK), Room k A → A.guards = some [] → Env0 P w K mg base A outer s H → BindsTo s fd args (ps.zip us) → Vals vs us → sp vs H Q E →
    codeAny (model P w) A (.call (.ref f) args) (CR (CX P w) outer P w H s Q E) s
theorem FnG.mono {P : Program} {w : World} {K : PySem.W.Frag} {mg : Str → Option Value} {base : Heap} {j k : Nat} {f : Addr} {fd : FuncData} {ps : List Str} {sp : Sp} (F : FnG P w K mg base j f fd ps sp) (h : j ≤ k) :
    FnG P w K mg base k f fd ps sp := ⟨F.len, fun A outer s H args us vs Q E hr => F.run A outer s H args us vs Q E (hr.mono h)⟩
/-- what is wanted of errors, as the layer says it -/
def wOf (f : Cf) : WX := fun cls d σ H => ∃ k dd, cls = .ref (f.c.cl k) ∧ d = some dd ∧ f.E k dd σ H
section
variable {f : Cf} {X : Cx} {pins : List (Addr × Obj)} {σV : L2.St} {H : Hp} {s : Shared} {Q : VK} {us : List Value} {vs : List V} {k : Nat} {g : Addr} {fd : FuncData} {ps : List Str} {sp : Sp}
theorem after_call (tk : Takes X (wOf f)) (I : L2.Inv X pins σV H s) (h : codeAny (model X.prog X.w) X.A (.call (.ref g) ⟨us, []⟩) (CR (CX X.prog X.w) X.stack X.prog X.w H s Q (WE (wOf f) σV)) s) :
    wpAny (model X.prog X.w) X.A (call (.ref g) us) (EP X pins σV Q) X.xe s := by
  refine wpAny_call (codeAny_mono h fun r s' hq => ?_)
  cases r with
  | error e => exact passAt tk σV pins H s e s' I hq
  | ok fl =>
    cases fl with
    | ret u => exact I.after hq
    | next => exact False.elim hq
    | brk => exact False.elim hq
    | cont => exact False.elim hq
theorem run_fnG (F : FnG X.prog X.w X.K X.mg X.base k g fd ps sp) (hr : Room k X.A) (hg : X.A.guards = some []) (hb : Binds X.K fd ps []) (tk : Takes X (wOf f))
    (I : L2.Inv X pins σV H s) (r : Vals vs us) (h : sp vs H Q (WE (wOf f) σV)) : wpAny (model X.prog X.w) X.A (call (.ref g) us) (EP X pins σV Q) X.xe s := by
  have hl : us.length = ps.length := by rw [← r.length]; exact F.len _ _ _ _ h
  have b := hb s us I.kIn (by rw [List.append_nil]; exact hl)
  rw [List.append_nil] at b
  exact after_call tk I (F.run X.A X.stack s H ⟨us, []⟩ us vs Q (WE (wOf f) σV) hr hg I.env0 b r h)
theorem run_fnGk {ks : List Str} {zs : List V} {ws : List Value} {gv : List Value → List Value → List Value} {gV : List V → List V → List V} (F : FnG X.prog X.w X.K X.mg X.base k g fd ps sp) (hr : Room k X.A) (hg : X.A.guards = some [])
    (hb : ∀ (s : Shared), X.K.In s.heap → (gv us ws).length = ps.length → BindsTo s fd ⟨us, ks.zip ws⟩ (ps.zip (gv us ws))) (rel : Vals (gV vs zs) (gv us ws)) (tk : Takes X (wOf f))
    (I : L2.Inv X pins σV H s) (h : sp (gV vs zs) H Q (WE (wOf f) σV)) : wpAny (model X.prog X.w) X.A (call (.ref g) us (ks.zip ws)) (EP X pins σV Q) X.xe s := by
  have hl : (gv us ws).length = ps.length := by rw [← rel.length]; exact F.len _ _ _ _ h
  refine wpAny_call (codeAny_mono (F.run X.A X.stack s H ⟨us, ks.zip ws⟩ (gv us ws) (gV vs zs) Q (WE (wOf f) σV) hr hg I.env0 (hb s I.kIn hl) rel h) fun r s' hq => ?_)
  cases r with
  | error e => exact passAt tk σV pins H s e s' I hq
  | ok fl =>
    cases fl with
    | ret u => exact I.after hq
    | next => exact False.elim hq
    | brk => exact False.elim hq
    | cont => exact False.elim hq
theorem guard_no : ∀ (C : Addr) (us : List Value) (kw : List (Str × Value)), Code.isGuard (.builtin "type.__call__" ⟨.ref C :: us, kw⟩) = false := by
  have h : guardIds.contains "type.__call__" = false := by decide +kernel
  intro C us kw
  unfold Code.isGuard
  exact h
theorem make_guards {A : Around} {C : Addr} {us : List Value} {kw : List (Str × Value)} : (A.under (.builtin "type.__call__" ⟨.ref C :: us, kw⟩)).guards = A.guards := by
  have h : Code.guards (.builtin "type.__call__" ⟨.ref C :: us, kw⟩) = [] := by
    have h2 : Code.isGuard (.builtin "type.__call__" ⟨.ref C :: us, kw⟩) = false := by
      exact guard_no C us kw
    unfold Code.guards
    rw [h2] <;> rfl
  show pushGuards (Code.guards (.builtin "type.__call__" ⟨.ref C :: us, kw⟩)) A.guards = A.guards
  rw [h]
  rfl
theorem run_makeG {C : Addr} (M : Mk X.K C g) (F : FnG X.prog X.w X.K X.mg X.base k g fd ps sp) (hr : Room (k + 1) X.A) (hgd : X.A.guards = some []) (hb : Binds X.K fd ps []) (tk : Takes X (wOf f))
    (I : L2.Inv X pins σV H s) (r : Vals vs us)
    (h : ∀ x dx, H x = none → H dx = none → dx ≠ x → sp (.ref x :: vs) (upd (upd H dx (.own x)) x (.ins C dx [])) (fun v H2 => v = .non ∧ Q (.ref x) H2) (WE (wOf f) σV)) :
    wpAny (model X.prog X.w) X.A (call (.ref C) us) (EP X pins σV Q) X.xe s := by
  have hq := h (s.heap.objs.size + 1) s.heap.objs.size (I.hok.fresh (Nat.le_succ _)) (I.hok.fresh (Nat.le_refl _)) (Nat.ne_of_lt (Nat.lt_succ_self _))
  have I2 := L2.Inv.made (C := C) I
  have r2 : Vals (V.ref (s.heap.objs.size + 1) :: vs) (Value.ref (s.heap.objs.size + 1) :: us) := .cons rfl r
  have hl : (Value.ref (s.heap.objs.size + 1) :: us).length = ps.length := by
    have e := r2.length
    rw [F.len _ _ _ _ hq] at e
    exact e.symm
  have b := hb _ (Value.ref (s.heap.objs.size + 1) :: us) I2.kIn (by rw [List.append_nil]; exact hl)
  rw [List.append_nil] at b
  refine wpAny_call (make_map (f := g) I.kIn M.makes M.init (beq_iff_eq.mp M.fn) (codeAny_mono (F.run _ X.stack _ _ ⟨Value.ref (s.heap.objs.size + 1) :: us, []⟩ (Value.ref (s.heap.objs.size + 1) :: us) _ _ (WE (wOf f) σV) (hr.make C us [])
    (make_guards.trans hgd) (I2.env0.make C us []) b r2 hq) fun r s' hq' => ?_))
  cases r with
  | error e => exact passAt tk σV pins _ _ e s' I2 hq'
  | ok fl =>
    cases fl with
    | ret u =>
      obtain ⟨v, H', I3, rv, ev, q3⟩ := I2.after hq'
      subst ev
      exact ⟨rv, ⟨V.ref (s.heap.objs.size + 1), H', I3, rfl, q3⟩⟩
    | next => exact False.elim hq'
    | brk => exact False.elim hq'
    | cont => exact False.elim hq'
end
/-- the promise that an evaluator's call gives -/
def spC (c : Kc) (cf : Nat → List TV → Rs → Rz TV) : Sp := fun vs H Q E =>
  ∃ n0 N α R ts, n0 ≤ R.length ∧ SR (c.w N) α R H ∧ Reps (c.w N) α R.length H ts vs ∧ Post (c.w N) (Rep (c.w N)) n0 α R H (cf n0 ts R) Q (fun k d H' => E (.ref (c.cl k)) (some d) H')
theorem wE_of {f : Cf} {σV : L2.St} {k : Nat} {d : Addr} {H : Hp} (h : f.E k d σV H) : WE (wOf f) σV (.ref (f.c.cl k)) (some d) H := ⟨k, d, rfl, rfl, h⟩
theorem Post.exc {β γ : Type} {c : Kc} {n0 : Nat} {α : Nat → Addr} {R : Rs} {H : Hp} {Q : γ → Hp → Prop} {E E' : Nat → Addr → Hp → Prop} {rel : Rel β γ} {r : Rz β} (h : Post c rel n0 α R H r Q E) (e : ∀ k d H', E k d H' → E' k d H') : Post c rel n0 α R H r Q E' := by
  cases r with
  | ok b R1 => exact h
  | exc k fs R1 => exact fun α1 H1 d fs' L1 S1 hd hr => e _ _ _ (h α1 H1 d fs' L1 S1 hd hr)
  | no => exact h
section
variable {f : Cf} {X : Cx} {a b d e : Expr} {es : List Expr} {ia ib id ie : Ex} {ies : Exs} {pos : Pos} {σV : L2.St} {H : Hp}
/-- a call of an own def, the arguments by places -/
theorem q_call {k i : Nat} {g : Addr} {fd : FuncData} {ps : List Str} {x : Str} {p : Pos} (F : FnG X.prog X.w X.K X.mg X.base k g fd ps (spC f.c fun n0 ts R => f.G.call n0 i ts R)) (hr : Room k X.A) (hgd : X.A.guards = some []) (tk : Takes X (wOf f))
    (hg : Gl X x) (hm : X.mg x = some (.ref g)) (hk : PySem.W.keepIn X.K (.ref g) = true) (hb : Binds X.K fd ps []) (ha : PA X (e :: es) (tA f ies))
    (hdb : (x == ("__debug__" : Str)) = false) (he : starEach (e :: es) X.env = (false, eval e X.env) :: starEach es X.env) (hpl : (backTo pos (starEach es X.env)).any (·.1) = false) :
    PE X (.Call (.Name x p) (e :: es) [] pos) (tE f (.call i ies)) := by
  refine ⟨fun pins s σV H Q I h => ?_⟩
  have h2 := At.args (ies := ies) (g := fun vs R1 => f.G.call f.n0 i vs R1) (fun σ R => by rw [evE]) h
  refine wpAny_Call_Name_kw (ld_glob I hg hm ?_ hdb)
  refine PySem.W.callWith_K (h₀ := X.base) I.ok.mod.kin hk (thn (ha.run pos pins s σV H _ I h2) fun us s1 ⟨vs, H1, I1, r, q⟩ => ⟨I1.kIn, ?_⟩) he hpl
  obtain ⟨N, α, R, ts, hn, S, r1, p⟩ := q
  exact run_fnG F hr hgd hb tk I1 r ⟨f.n0, N, α, R, ts, hn, S, r1, p.exc fun k d H' h => wE_of h⟩
theorem q_call0 {k i : Nat} {g : Addr} {fd : FuncData} {ps : List Str} {x : Str} {p : Pos} (F : FnG X.prog X.w X.K X.mg X.base k g fd ps (spC f.c fun n0 ts R => f.G.call n0 i ts R)) (hr : Room k X.A) (hgd : X.A.guards = some []) (tk : Takes X (wOf f))
    (hg : Gl X x) (hm : X.mg x = some (.ref g)) (hk : PySem.W.keepIn X.K (.ref g) = true) (hb : Binds X.K fd ps [])
    (hdb : (x == ("__debug__" : Str)) = false) : PE X (.Call (.Name x p) [] [] pos) (tE f (.call i .nil)) := by
  refine ⟨fun pins s σV H Q I h => ?_⟩
  have h2 := At.args (ies := .nil) (g := fun vs R1 => f.G.call f.n0 i vs R1) (fun σ R => by rw [evE]) h
  refine wpAny_Call_Name_kw (ld_glob I hg hm ?_ hdb)
  refine PySem.W.callWith_K0 I.kIn hk ?_
  obtain ⟨N, σ, α, R, hn, hs, S, p⟩ := h2
  have e1 : evs f.G f.n0 .nil σ R = .ok [] R := by rw [evs]
  rw [e1] at p
  obtain ⟨N1, α1, R1, ts, hn1, S1, r1, p⟩ := p.ok S .nil
  exact run_fnG (us := []) (vs := []) F hr hgd hb tk I .nil ⟨f.n0, N1, α1, R1, ts, hn1, S1, r1, p.exc fun k d H' h => wE_of h⟩
/-! ### keywords -/
theorem q_knil : PK X [] (tA f .nil) := ⟨fun pos pins s σ H Q I h => pk_nil.run pos pins s σ H Q I (by
  obtain ⟨N, σ, α, R, hn, hs, S, p⟩ := h
  have e1 : evs f.G f.n0 .nil σ R = .ok [] R := by rw [evs]
  rw [e1] at p
  exact p.ok S .nil)⟩
theorem q_kcons {nm : Option Str} {kpos : Pos} {kws : List Keyword} (he : PE X e (tE f ie)) (hr : PK X kws (tA f ies)) : PK X (⟨nm, e, kpos⟩ :: kws) (tA f (.cons ie ies)) := ⟨fun pos pins s σV H Q I h => (pk_cons he hr).run pos pins s σV H Q I (by
  obtain ⟨N, σ, α, R, hn, hs, S, p⟩ := h
  have e1 : evs f.G f.n0 (.cons ie ies) σ R = (evE f.G f.n0 ie σ R).bind fun x R1 => (evs f.G f.n0 ies σ R1).bind fun xs R2 => .ok (x :: xs) R2 := by rw [evs]
  rw [e1] at p
  refine ⟨N, σ, α, R, hn, hs, S, (Post.bind p).mono ?_⟩
  rintro x H1 ⟨α1, R1, tx, L1, S1, r1, p⟩
  refine ⟨N, σ, α1, R1, Nat.le_trans hn L1.len, hs.later L1, S1, (Post.bind (rel := Reps (f.k N)) p).mono ?_⟩
  rintro y H2 ⟨α2, R2, ty, L2, S2, r2, p⟩
  exact p.ok S2 (.cons (r1.later L2) r2))⟩
/-! ### new instances -/
theorem made_later {c : Kc} {n0 : Nat} {α : Nat → Addr} {R : Rs} {H : Hp} {k : Nat} {x dx : Addr} (S : SR c α R H) (hn : n0 ≤ R.length) (hx : H x = none) (hdx : H dx = none) (ne : dx ≠ x) :
    Later n0 α R H (snocA α R.length x) (R ++ [.ins k []]) (upd (upd H dx (.own x)) x (.ins (c.cl k) dx [])) ∧ SR c (snocA α R.length x) (R ++ [.ins k []]) (upd (upd H dx (.own x)) x (.ins (c.cl k) dx [])) := by
  have hx2 : upd H dx (.own x) x = none := by rw [upd_ne ne.symm]; exact hx
  have S1 : SR c α R (upd H dx (.own x)) := S.fresh hdx
  have L1 : Later n0 α R H α R (upd H dx (.own x)) := Later.fresh S hdx
  refine ⟨L1.trans (Later.snoc hn hx2), S1.snoc hx2 ⟨dx, [], upd_same, .nil⟩⟩
end
/-! ### a frame's own roots dropped -/
mutual
theorem Rep.low {c : Kc} {α α' : Nat → Addr} {n m m0 : Nat} {H : Hp} (hm : ∀ a, MM α' m a → MM α n a) (al : ∀ k, k < m0 → α' k = α k) (h0 : m0 ≤ m) : ∀ {x : TV} {v : V}, Rep c α n H x v → hb x ≤ m0 → Rep c α' m H x v
  | _, _, .non, _ => .non
  | _, _, .bl b, _ => .bl b
  | _, _, .int i, _ => .int i
  | _, _, .str s, _ => .str s
  | _, _, .ty s, _ => .ty s
  | _, _, .lst h q r, l => .lst h (fun z => q (z.imp (hm _) id)) (Reps.low hm al h0 r l)
  | _, _, .klstF h q r, l => .klstF h (fun z => q (z.imp (hm _) id)) (Reps.low hm al h0 r l)
  | _, _, .klstK h r, l => .klstK h (Reps.low hm al h0 r l)
  | _, _, .tup h q r, l => .tup h (fun z => q (z.imp (hm _) id)) (Reps.low hm al h0 r l)
  | _, _, .tupK h r, l => .tupK h (Reps.low hm al h0 r l)
  | _, _, .dct h q r, l => .dct h (fun z => q (z.imp (hm _) id)) (RepK.low hm al h0 r l)
  | _, _, .ins h q r, l => .ins h (fun z => q (z.imp (hm _) id)) (RepF.low hm al h0 r l)
  | _, _, .root (k := k) _, l => al k l ▸ .root (Nat.lt_of_lt_of_le l h0)
theorem Reps.low {c : Kc} {α α' : Nat → Addr} {n m m0 : Nat} {H : Hp} (hm : ∀ a, MM α' m a → MM α n a) (al : ∀ k, k < m0 → α' k = α k) (h0 : m0 ≤ m) : ∀ {x : List TV} {v : List V}, Reps c α n H x v → hbs x ≤ m0 → Reps c α' m H x v
  | _, _, .nil, _ => .nil
  | _, _, .cons a b, l => .cons (Rep.low hm al h0 a (Nat.le_trans (Nat.le_max_left _ _) l)) (Reps.low hm al h0 b (Nat.le_trans (Nat.le_max_right _ _) l))
theorem RepK.low {c : Kc} {α α' : Nat → Addr} {n m m0 : Nat} {H : Hp} (hm : ∀ a, MM α' m a → MM α n a) (al : ∀ k, k < m0 → α' k = α k) (h0 : m0 ≤ m) : ∀ {x : List (Key × TV)} {v : List (Key × V)}, RepK c α n H x v → hbK x ≤ m0 → RepK c α' m H x v
  | _, _, .nil, _ => .nil
  | _, _, .cons a b, l => .cons (Rep.low hm al h0 a (Nat.le_trans (Nat.le_max_left _ _) l)) (RepK.low hm al h0 b (Nat.le_trans (Nat.le_max_right _ _) l))
theorem RepF.low {c : Kc} {α α' : Nat → Addr} {n m m0 : Nat} {H : Hp} (hm : ∀ a, MM α' m a → MM α n a) (al : ∀ k, k < m0 → α' k = α k) (h0 : m0 ≤ m) : ∀ {x : List (Str × TV)} {v : List (Str × V)}, RepF c α n H x v → hbF x ≤ m0 → RepF c α' m H x v
  | _, _, .nil, _ => .nil
  | _, _, .cons a b, l => .cons (Rep.low hm al h0 a (Nat.le_trans (Nat.le_max_left _ _) l)) (RepF.low hm al h0 b (Nat.le_trans (Nat.le_max_right _ _) l))
end
theorem RepO.low {c : Kc} {α α' : Nat → Addr} {n m m0 : Nat} {H : Hp} (hm : ∀ a, MM α' m a → MM α n a) (al : ∀ k, k < m0 → α' k = α k) (h0 : m0 ≤ m) {o : RO} {a : Addr} (h : RepO c α n H o a) (l : hbO o ≤ m0) : RepO c α' m H o a := by
  cases o with
  | lst xs => obtain ⟨vs, h, r⟩ := h; exact ⟨vs, h, r.low hm al h0 l⟩
  | dct xs => obtain ⟨vs, h, r⟩ := h; exact ⟨vs, h, r.low hm al h0 l⟩
  | ins k xs => obtain ⟨dx, vs, h, r⟩ := h; exact ⟨dx, vs, h, r.low hm al h0 l⟩
section
variable {c : Kc} {n0 : Nat} {α0 α : Nat → Addr} {R0 R : Rs} {H0 H : Hp} {t : TV} {v : V} {Q : VK} {E : Ex0}
theorem take_get {R : Rs} {n k : Nat} {o : RO} (h : (R.take n)[k]? = some o) : k < n ∧ R[k]? = some o := by
  have hk := (List.getElem?_eq_some_iff.mp h).1
  rw [List.length_take] at hk
  have : k < n := by omega
  rw [List.getElem?_take_of_lt this] at h
  exact ⟨this, h⟩
theorem cut_later (hn : n0 ≤ R0.length) (L : Later R0.length α0 R0 H0 α R H) : Later n0 α0 R0 H0 α (R.take R0.length) H := by
  have hl : (R.take R0.length).length = R0.length := by rw [List.length_take]; exact Nat.min_eq_left L.len
  refine ⟨Nat.le_of_eq hl.symm, L.al, L.keep, L.trk, fun a ⟨k, hk, e⟩ => ?_, fun m hm h k o hk e => ?_⟩
  · rw [hl] at hk
    exact .inl ⟨k, hk, (L.al k hk) ▸ e⟩
  · exact L.cl m (Nat.le_trans hm hn) h k o hk (take_get e).2
theorem cut_SR (L : Later R0.length α0 R0 H0 α R H) (S : SR c α R H) (S0 : SR c α0 R0 H0) : SR c α (R.take R0.length) H := by
  have hl : (R.take R0.length).length = R0.length := by rw [List.length_take]; exact Nat.min_eq_left L.len
  refine ⟨S.gh, fun k hk => S.ng k (Nat.lt_of_lt_of_le (hl ▸ hk) L.len), fun k o e => ?_, fun j k hj hk e => ?_⟩
  · obtain ⟨hk, e⟩ := take_get e
    rw [hl]
    exact (S.obj k o e).low (fun a ⟨j, hj, e⟩ => ⟨j, Nat.lt_of_lt_of_le hj L.len, e⟩) (fun _ _ => rfl) (Nat.le_refl _) (L.cl _ (Nat.le_refl _) S0.closed k o hk e)
  · rw [hl] at hj hk
    exact S.inj j k (Nat.lt_of_lt_of_le hj L.len) (Nat.lt_of_lt_of_le hk L.len) e
theorem settle_ok (hn : n0 ≤ R0.length) (L : Later R0.length α0 R0 H0 α R H) (S : SR c α R H) (r : Rep c α R.length H t v) (S0 : SR c α0 R0 H0) (p : Post c (Rep c) n0 α0 R0 H0 (settle R0.length t R) Q E) : Q v H := by
  have hl : (R.take R0.length).length = R0.length := by rw [List.length_take]; exact Nat.min_eq_left L.len
  have Lc := cut_later hn L
  have Sc := cut_SR L S S0
  have gen : Post c (Rep c) n0 α0 R0 H0 (ofO (sub (rootT R R0.length R.length deepN) t) (R.take R0.length)) Q E → Q v H := fun p => by
    cases q : sub (rootT R R0.length R.length deepN) t with
    | none => rw [q] at p; exact False.elim p
    | some t' =>
      rw [q] at p
      refine p α H v Lc Sc ?_
      rw [hl]
      exact sub_ok (fun a ⟨j, hj, e⟩ => ⟨j, Nat.lt_of_lt_of_le hj L.len, e⟩) (fun k t hk e => rootT_cut S L.len deepN k t hk e) r q
  cases t with
  | non => cases r; exact p α H _ Lc Sc .non
  | bl b => cases r; exact p α H _ Lc Sc (.bl b)
  | int b => cases r; exact p α H _ Lc Sc (.int b)
  | str b => cases r; exact p α H _ Lc Sc (.str b)
  | _ => exact gen p
/-- its own list (dict, instance) handed on as a root -/
theorem handOn_ok (hn : n0 ≤ R0.length) (L : Later R0.length α0 R0 H0 α R H) (S : SR c α R H) (r : Rep c α R.length H t v) (S0 : SR c α0 R0 H0) (p : Post c (Rep c) n0 α0 R0 H0 (handOn R0.length t R) Q E) : Q v H := by
  have hl : (R.take R0.length).length = R0.length := by rw [List.length_take]; exact Nat.min_eq_left L.len
  have Lc := cut_later hn L
  have Sc := cut_SR L S S0
  cases t with
  | root k =>
    cases r with
    | root hk =>
      have p2 : Post c (Rep c) n0 α0 R0 H0 (if k < R0.length then .ok (.root k) (R.take R0.length) else match R[k]? with
        | some o => match subO (rootT R R0.length k deepN) o with
          | some o' => .ok (.root R0.length) (R.take R0.length ++ [o'])
          | none => .no
        | none => .no) Q E := p
      by_cases h : k < R0.length
      · rw [if_pos h] at p2
        exact p2 α H _ Lc Sc (.root (by rw [hl]; exact h))
      · rw [if_neg h] at p2
        cases q : R[k]? with
        | none => rw [q] at p2; exact False.elim p2
        | some o =>
          rw [q] at p2
          cases z : subO (rootT R R0.length k deepN) o with
          | none => simp only [z] at p2; exact False.elim p2
          | some o' =>
            simp only [z] at p2
            -- the root k, renumbered
            have hfree : ∀ a, MM (snocA α R0.length (α k)) (R0.length + 1) a → MM α0 R0.length a ∨ H0 a = none := fun a ⟨j, hj, e⟩ => by
              by_cases h1 : j < R0.length
              · rw [snocA_lt h1] at e
                exact .inl ⟨j, h1, (L.al j h1) ▸ e⟩
              · have : j = R0.length := by omega
                subst this
                rw [snocA_at] at e
                subst e
                rcases L.mm (α k) ⟨k, hk, rfl⟩ with ⟨j, hj, e⟩ | h0
                · rw [← L.al j hj] at e
                  exact absurd (S.inj j k (Nat.lt_of_lt_of_le hj L.len) hk e) (fun z => h (z ▸ hj))
                · exact .inr h0
            have hlen : (R.take R0.length ++ [o']).length = R0.length + 1 := by rw [List.length_append, hl] <;> rfl
            have L2 : Later n0 α0 R0 H0 (snocA α R0.length (α k)) (R.take R0.length ++ [o']) H := by
              refine ⟨by omega, fun j hj => by rw [snocA_lt hj]; exact L.al j hj, L.keep, L.trk, fun a ha => hfree a (by rw [hlen] at ha; exact ha), fun m hm hc => ?_⟩
              exact (Lc.cl m hm hc).snoc (by rw [hl]; exact Nat.le_trans hm hn)
            -- roots below stand as they stood; the new one is apart
            have hup : ∀ a, MM (snocA α R0.length (α k)) (R0.length + 1) a → MM α R.length a := fun a ⟨j, hj, e⟩ => by
              by_cases h1 : j < R0.length
              · rw [snocA_lt h1] at e; exact ⟨j, Nat.lt_of_lt_of_le h1 L.len, e⟩
              · have : j = R0.length := by omega
                subst this
                rw [snocA_at] at e
                exact ⟨k, hk, e⟩
            have S2 : SR c (snocA α R0.length (α k)) (R.take R0.length ++ [o']) H := by
              refine ⟨S.gh, fun j hj z => ?_, fun j oj ej => ?_, fun i j hi hj e => ?_⟩
              · rw [hlen] at hj
                by_cases h1 : j < R0.length
                · rw [snocA_lt h1] at z; exact S.ng j (Nat.lt_of_lt_of_le h1 L.len) z
                · have : j = R0.length := by omega
                  subst this
                  rw [snocA_at] at z; exact S.ng k hk z
              · rw [hlen]
                by_cases h1 : j < R0.length
                · rw [List.getElem?_append_left (by omega)] at ej
                  obtain ⟨_, ej⟩ := take_get ej
                  rw [snocA_lt h1]
                  exact (S.obj j oj ej).low hup (fun i hi => snocA_lt hi) (Nat.le_succ _) (L.cl _ (Nat.le_refl _) S0.closed j oj h1 ej)
                · have hj2 := (List.getElem?_eq_some_iff.mp ej).1
                  have : j = R0.length := by omega
                  subst this
                  rw [List.getElem?_append_right (by omega), hl, Nat.sub_self] at ej
                  cases ej
                  rw [snocA_at]
                  refine subO_ok hup (fun i t hi e => rootT_ok S hup (fun j hj => snocA_lt hj) (Nat.le_succ _) (fun i hi h0 hb ⟨j, hj, e⟩ => ?_) deepN i t hi e) (S.obj k o q) z
                  by_cases h1 : j < R0.length
                  · rw [snocA_lt h1] at e
                    have := S.inj j i (Nat.lt_of_lt_of_le h1 L.len) hi e
                    omega
                  · have : j = R0.length := by omega
                    subst this
                    rw [snocA_at] at e
                    exact hb (S.inj k i hk hi e).symm
              · rw [hlen] at hi hj
                by_cases h1 : i < R0.length
                · rw [snocA_lt h1] at e
                  by_cases h2 : j < R0.length
                  · rw [snocA_lt h2] at e
                    exact S.inj i j (Nat.lt_of_lt_of_le h1 L.len) (Nat.lt_of_lt_of_le h2 L.len) e
                  · have : j = R0.length := by omega
                    subst this
                    rw [snocA_at] at e
                    have := S.inj i k (Nat.lt_of_lt_of_le h1 L.len) hk e
                    omega
                · have : i = R0.length := by omega
                  subst this
                  rw [snocA_at] at e
                  by_cases h2 : j < R0.length
                  · rw [snocA_lt h2] at e
                    have := S.inj k j hk (Nat.lt_of_lt_of_le h2 L.len) e
                    omega
                  · omega
            refine p2 _ H _ L2 S2 ?_
            have : V.ref (α k) = V.ref (snocA α R0.length (α k) R0.length) := by rw [snocA_at]
            rw [this, hlen]
            exact .root (Nat.lt_succ_self _)
  | _ => exact settle_ok hn L S r S0 p
end
section
variable {f : Cf} {X : Cx} {a b d e : Expr} {es : List Expr} {ia ib id ie : Ex} {ies : Exs} {pos : Pos} {σV : L2.St} {H : Hp}
theorem q_make {k j : Nat} {st : Bool} {g : Addr} {fd : FuncData} {ps : List Str} {x : Str} {p : Pos} {i : Nat} (hi : f.G.init j = some (i, st)) (M : Mk X.K (f.c.cl j) g) (F : FnG X.prog X.w X.K X.mg X.base k g fd ps (spC f.c fun n0 ts R => f.G.call n0 i ts R))
    (hr : Room (k + 1) X.A) (hgd : X.A.guards = some []) (tk : Takes X (wOf f))
    (hg : Gl X x) (hm : X.mg x = some (.ref (f.c.cl j))) (hb : Binds X.K fd ps []) (ha : PA X (e :: es) (tA f ies))
    (hdb : (x == ("__debug__" : Str)) = false) (he : starEach (e :: es) X.env = (false, eval e X.env) :: starEach es X.env) (hpl : (backTo pos (starEach es X.env)).any (·.1) = false) :
    PE X (.Call (.Name x p) (e :: es) [] pos) (tE f (.make j ies)) := by
  refine ⟨fun pins s σV H Q I h => ?_⟩
  have h2 := At.args (ies := ies) (g := fun vs R1 => makeV f.G f.n0 j vs R1) (fun σ R => by rw [evE]) h
  refine wpAny_Call_Name_kw (ld_glob I hg hm ?_ hdb)
  refine PySem.W.callWith_K (h₀ := X.base) I.ok.mod.kin M.kp (thn (ha.run pos pins s σV H _ I h2) fun us s1 ⟨vs, H1, I1, r, q⟩ => ⟨I1.kIn, ?_⟩) he hpl
  obtain ⟨N, α, R, ts, hn, S, r1, p⟩ := q
  refine run_makeG M F hr hgd hb tk I1 r fun x dx hx hdx ne => ?_
  obtain ⟨L2, S2⟩ := made_later (n0 := R.length) (k := j) S (Nat.le_refl _) hx hdx ne
  have hl : (R ++ [RO.ins j []]).length = R.length + 1 := by simp
  have rx : Rep (f.k N) (snocA α R.length x) (R ++ [RO.ins j []]).length (upd (upd H1 dx (.own x)) x (.ins (f.c.cl j) dx [])) (.root R.length) (.ref x) := by
    have : V.ref x = V.ref (snocA α R.length x R.length) := by rw [snocA_at]
    rw [this, hl]
    exact .root (Nat.lt_succ_self _)
  have r2 := r1.later L2
  unfold makeV at p
  rw [hi] at p
  cases st with
  | true =>
    refine ⟨R.length, N, _, _, .root R.length :: ts, by rw [hl]; exact Nat.le_succ _, S2, .cons rx r2, ?_⟩
    have p2 : Post (f.k N) (Rep (f.k N)) f.n0 α R H1 ((f.G.call R.length i (.root R.length :: ts) (R ++ [.ins j []])).bind fun v R1 => match v with
      | .non => settle R.length (.root R.length) R1
      | _ => .no) Q (f.Eat σV) := p
    show Post (f.k N) (Rep (f.k N)) R.length _ _ _ (f.G.call R.length i (.root R.length :: ts) (R ++ [.ins j []])) _ _
    cases q : f.G.call R.length i (.root R.length :: ts) (R ++ [.ins j []]) with
    | no => rw [q] at p2; exact p2
    | exc k fs R1 =>
      rw [q] at p2
      intro α' H' d fs' L' S' hd hf
      exact wE_of (p2 α' H' d fs' ((L2.trans L').weak hn) S' hd hf)
    | ok v R1 =>
      rw [q] at p2
      intro α' H' v' L' S' rv
      cases v with
      | non => exact ⟨non_inv rv, settle_ok hn (L2.trans L') S' (rx.later L') S p2⟩
      | _ => exact False.elim p2
  | false =>
    refine ⟨f.n0, N, _, _, .root R.length :: ts, by rw [hl]; exact Nat.le_succ_of_le hn, S2, .cons rx r2, ?_⟩
    have p2 : Post (f.k N) (Rep (f.k N)) f.n0 α R H1 ((f.G.call f.n0 i (.root R.length :: ts) (R ++ [.ins j []])).bind fun v R1 => match v with
      | .non => .ok (.root R.length) R1
      | _ => .no) Q (f.Eat σV) := p
    show Post (f.k N) (Rep (f.k N)) f.n0 _ _ _ (f.G.call f.n0 i (.root R.length :: ts) (R ++ [.ins j []])) _ _
    cases q : f.G.call f.n0 i (.root R.length :: ts) (R ++ [.ins j []]) with
    | no => rw [q] at p2; exact p2
    | exc k fs R1 =>
      rw [q] at p2
      intro α' H' d fs' L' S' hd hf
      exact wE_of (p2 α' H' d fs' ((L2.weak hn).trans L') S' hd hf)
    | ok v R1 =>
      rw [q] at p2
      intro α' H' v' L' S' rv
      cases v with
      | non => exact ⟨non_inv rv, p2 α' H' _ ((L2.weak hn).trans L') S' (rx.later L')⟩
      | _ => exact False.elim p2
end
end Pv

/-! E9: methods of built-in types, fields, own methods, isinstance, list(range), stores. -/
namespace Pv
open PySem PySem.Spec PyProof.Rows L2

theorem hbs_app : ∀ xs ys : List TV, hbs (xs ++ ys) ≤ max (hbs xs) (hbs ys)
  | [], ys => by rw [List.nil_append]; exact Nat.le_max_right _ _
  | x :: xs, ys => by
    have h := hbs_app xs ys
    show max (hb x) (hbs (xs ++ ys)) ≤ max (max (hb x) (hbs xs)) (hbs ys)
    omega
theorem hbs_take : ∀ (xs : List TV) (n : Nat), hbs (xs.take n) ≤ hbs xs
  | [], n => by simp
  | x :: xs, 0 => by simp [hbs]
  | x :: xs, n + 1 => by
    have h := hbs_take xs n
    show max (hb x) (hbs (xs.take n)) ≤ max (hb x) (hbs xs)
    omega
theorem hbs_drop : ∀ (xs : List TV) (n : Nat), hbs (xs.drop n) ≤ hbs xs
  | [], n => by simp
  | x :: xs, 0 => by simp
  | x :: xs, n + 1 => by
    have h := hbs_drop xs n
    show hbs (xs.drop n) ≤ max (hb x) (hbs xs)
    omega
theorem hbs_set : ∀ (xs : List TV) (n : Nat) (v : TV), hbs (xs.set n v) ≤ max (hbs xs) (hb v)
  | [], n, v => by simp [hbs]
  | x :: xs, 0, v => by
    show max (hb v) (hbs xs) ≤ max (max (hb x) (hbs xs)) (hb v)
    omega
  | x :: xs, n + 1, v => by
    have h := hbs_set xs n v
    show max (hb x) (hbs (xs.set n v)) ≤ max (max (hb x) (hbs xs)) (hb v)
    omega
theorem hbs_erase : ∀ (xs : List TV) (n : Nat), hbs (xs.eraseIdx n) ≤ hbs xs
  | [], n => by simp
  | x :: xs, 0 => by
    show hbs xs ≤ max (hb x) (hbs xs)
    omega
  | x :: xs, n + 1 => by
    have h := hbs_erase xs n
    show max (hb x) (hbs (xs.eraseIdx n)) ≤ max (hb x) (hbs xs)
    omega
theorem hbs_one (v : TV) : hbs [v] = hb v := by show max (hb v) 0 = hb v; omega
theorem hbK_map (k : Key) (v : TV) : ∀ xs : List (Key × TV), hbK (xs.map fun kv => if kv.1 = k then (kv.1, v) else kv) ≤ max (hbK xs) (hb v)
  | [] => by simp [hbK]
  | (k', x) :: xs => by
    have h := hbK_map k v xs
    rw [List.map_cons]
    by_cases e : k' = k
    · rw [if_pos e]
      show max (hb v) _ ≤ max (max (hb x) (hbK xs)) (hb v)
      omega
    · rw [if_neg e]
      show max (hb x) _ ≤ max (max (hb x) (hbK xs)) (hb v)
      omega
theorem hbK_app (k : Key) (v : TV) : ∀ xs : List (Key × TV), hbK (xs ++ [(k, v)]) ≤ max (hbK xs) (hb v)
  | [] => by show max (hb v) 0 ≤ _; omega
  | (k', x) :: xs => by
    have h := hbK_app k v xs
    rw [List.cons_append]
    show max (hb x) (hbK (xs ++ [(k, v)])) ≤ max (max (hb x) (hbK xs)) (hb v)
    omega
theorem hbK_put (xs : List (Key × TV)) (k : Key) (v : TV) : hbK (putK xs k v) ≤ max (hbK xs) (hb v) := by
  unfold putK
  split
  · exact hbK_map k v xs
  · exact hbK_app k v xs
theorem hbF_put (f : Str) (v : TV) : ∀ xs : List (Str × TV), hbF (putFT f v xs) ≤ max (hbF xs) (hb v)
  | [] => by show max (hb v) 0 ≤ _; omega
  | (k', x) :: xs => by
    have h := hbF_put f v xs
    unfold putFT
    by_cases e : k' = f
    · rw [if_pos e]
      show max (hb v) (hbF xs) ≤ max (max (hb x) (hbF xs)) (hb v)
      omega
    · rw [if_neg e]
      show max (hb x) _ ≤ max (max (hb x) (hbF xs)) (hb v)
      omega
theorem strs_ok {c : Kc} {α : Nat → Addr} {n : Nat} {H : Hp} : ∀ {xs : List TV} {vs : List V} {ns : List Str}, Reps c α n H xs vs → strsOf xs = some ns → vs = ns.map V.str
  | _, _, _, .nil, h => by cases h; rfl
  | _, _, ns, .cons (xs := xs) a b, h => by
    cases a with
    | str i =>
      have h' : (strsOf xs).map (i :: ·) = some ns := h
      cases q : strsOf xs with
      | none => rw [q] at h'; cases h'
      | some ms => rw [q] at h'; cases h'; rw [strs_ok b q] <;> rfl
    | _ => cases h
/-! ### methods of built-in types -/
def Mt.ty : Mt → String
  | .get => "dict"
  | .join => "str"
  | _ => "list"
def Mt.id : Mt → String
  | .append => "list.append"
  | .insert => "list.insert"
  | .pop => "list.pop"
  | .extend => "list.extend"
  | .get => "dict.get"
  | .join => "str.join"
def Mt.nm : Mt → Str
  | .append => "append"
  | .insert => "insert"
  | .pop => "pop"
  | .extend => "extend"
  | .get => "get"
  | .join => "join"
theorem Mt.plain : ∀ m : Mt, PlainAttrs m.ty
  | .append => PySem.F.plainAttrs_list
  | .insert => PySem.F.plainAttrs_list
  | .pop => PySem.F.plainAttrs_list
  | .extend => PySem.F.plainAttrs_list
  | .get => PySem.F.plainAttrs_dict
  | .join => PySem.F.plainAttrs_str
theorem Mt.slot : ∀ m : Mt, Slot m.ty m.nm m.id
  | .append => PySem.F.slot_list_append
  | .insert => PySem.F.slot_list_insert
  | .pop => PySem.F.slot_list_pop
  | .extend => PySem.F.slot_list_extend
  | .get => PySem.F.slot_dict_get
  | .join => PySem.F.slot_str_join
theorem Mt.hty : ∀ m : Mt, typeOf (.builtin m.id) = pure (.type "method_descriptor")
  | .append => PySem.F.type_list_append
  | .insert => PySem.F.type_list_insert
  | .pop => PySem.F.type_list_pop
  | .extend => PySem.F.type_list_extend
  | .get => PySem.F.type_dict_get
  | .join => PySem.F.type_str_join
def rEvM (c : Kc) (n0 : Nat) (E : Ex0) (m : Mt) : V → List V → Hp → VK → Prop := fun x vs H Q =>
  ∃ N α R tx ts, n0 ≤ R.length ∧ SR (c.w N) α R H ∧ Rep (c.w N) α R.length H tx x ∧ Reps (c.w N) α R.length H ts vs ∧ Post (c.w N) (Rep (c.w N)) n0 α R H (mthV n0 m tx ts R) Q E
section
variable {c : Kc} {n0 n : Nat} {α : Nat → Addr} {R : Rs} {H : Hp} {E : Ex0} {Q : V → Hp → Prop} {X : Cx}
/-- a root's object at its address -/
theorem root_at (S : SR c α R H) {k : Nat} {v : V} (r : Rep c α R.length H (.root k) v) : v = .ref (α k) := by cases r; rfl
/-- a list that is a root, changed -/
theorem set_lst (S : SR c α R H) {k : Nat} {xs ys : List TV} {ws : List V} {put : List TV} {t : TV} {v : V} (hk : R[k]? = some (.lst xs)) (hm : put.all (mayPut n0 k) = true) (hh : hbs ys ≤ max (hbs xs) (hbs put)) (ry : Reps c α R.length H ys ws)
    (rt : Rep c α R.length H t v) (p : Post c (Rep c) n0 α R H (.ok t (R.set k (.lst ys))) Q E) : Q v (upd H (α k) (.lst ws)) := by
  have hl : (R.set k (.lst ys)).length = R.length := List.length_set
  have L : Later n0 α R H α (R.set k (.lst ys)) (upd H (α k) (.lst ws)) := Later.set S hk hh hm
  have S' : SR c α (R.set k (.lst ys)) (upd H (α k) (.lst ws)) := SR.set (n0 := n0) S hk hh hm ⟨ws, upd_same, by
    have := ry.later L
    rw [hl] at this; exact this⟩
  exact p α _ v L S' (rt.later L)
theorem set_dct (S : SR c α R H) {k : Nat} {xs ys : List (Key × TV)} {ws : List (Key × V)} {put : List TV} {t : TV} {v : V} (hk : R[k]? = some (.dct xs)) (hm : put.all (mayPut n0 k) = true) (hh : hbK ys ≤ max (hbK xs) (hbs put)) (ry : RepK c α R.length H ys ws)
    (rt : Rep c α R.length H t v) (p : Post c (Rep c) n0 α R H (.ok t (R.set k (.dct ys))) Q E) : Q v (upd H (α k) (.dK ws)) := by
  have hl : (R.set k (.dct ys)).length = R.length := List.length_set
  have L : Later n0 α R H α (R.set k (.dct ys)) (upd H (α k) (.dK ws)) := Later.set S hk hh hm
  have S' : SR c α (R.set k (.dct ys)) (upd H (α k) (.dK ws)) := SR.set (n0 := n0) S hk hh hm ⟨ws, upd_same, by
    have := ry.later L
    rw [hl] at this; exact this⟩
  exact p α _ v L S' (rt.later L)
theorem lst_at (S : SR c α R H) {k : Nat} {xs : List TV} (hk : R[k]? = some (.lst xs)) : ∃ vs, H (α k) = some (.lst vs) ∧ Reps c α R.length H xs vs := S.obj k _ hk
theorem rt_lst {k : Nat} {o : Option RO} (h : (match o with | some (.lst _) => true | _ => false) = true) : ∃ xs, o = some (.lst xs) := by
  cases o with
  | none => cases h
  | some o => cases o <;> first | exact ⟨_, rfl⟩ | cases h
theorem all_one {n0 k : Nat} {v : TV} (h : mayPut n0 k v = true) : [v].all (mayPut n0 k) = true := by rw [List.all_cons, List.all_nil, h] <;> rfl
theorem mt_Mt (xo : Xo c X) (m : Mt) : MtR X m.id (rEvM c n0 E m) := by
  intro pins s σ H x vs v us Q I rx rv ⟨N, α, R, tx, ts, hn, S, r1, rs, h⟩
  have xo := xo.w N
  have hu := xo.hu
  cases m with
  | append =>
    cases tx with
    | root k =>
      cases ts with
      | nil => exact False.elim h
      | cons y ts =>
        cases ts with
        | cons _ _ => exact False.elim h
        | nil =>
          obtain ⟨w, rfl, rw'⟩ := rs.one
          have e := root_at S r1
          have h2 : Post (c.w N) (Rep (c.w N)) n0 α R H (match R[k]? with
            | some (.lst xs) => guardR (decide (xs.length < sizeLine) && mayPut n0 k y) (.ok .non (R.set k (.lst (xs ++ [y]))))
            | _ => .no) Q E := h
          cases q : R[k]? with
          | none => rw [q] at h2; exact False.elim h2
          | some o =>
            rw [q] at h2
            cases o with
            | lst xs =>
              obtain ⟨hz, p⟩ := Post.guard h2
              rw [Bool.and_eq_true] at hz
              obtain ⟨ws, h1, ra⟩ := lst_at S q
              refine mt_append pins s σ H _ _ v us Q I rx rv ⟨α k, ws, w, e, rfl, h1, ra.length ▸ of_decide_eq_true hz.1, ?_⟩
              exact set_lst S q (all_one hz.2) (hbs_app xs [y]) (ra.append (.cons rw' .nil)) .non p
            | dct _ => exact False.elim h2
            | ins _ _ => exact False.elim h2
    | _ => exact False.elim h
  | insert =>
    cases tx with
    | root k =>
      cases ts with
      | nil => exact False.elim h
      | cons i ts =>
        cases ts with
        | nil => cases i <;> exact False.elim h
        | cons y ts =>
          cases ts with
          | cons _ _ => cases i <;> exact False.elim h
          | nil =>
            obtain ⟨iv, w, rfl, ri, rw'⟩ := rs.two
            cases i with
            | int i =>
              cases ri
              have e := root_at S r1
              have h2 : Post (c.w N) (Rep (c.w N)) n0 α R H (match R[k]? with
                | some (.lst xs) => guardR (decide (xs.length < sizeLine ∧ 0 ≤ i ∧ i < 2 ^ 63) && mayPut n0 k y) (.ok .non (R.set k (.lst (xs.take i.toNat ++ [y] ++ xs.drop i.toNat))))
                | _ => .no) Q E := h
              cases q : R[k]? with
              | none => rw [q] at h2; exact False.elim h2
              | some o =>
                rw [q] at h2
                cases o with
                | lst xs =>
                  obtain ⟨hz, p⟩ := Post.guard h2
                  rw [Bool.and_eq_true] at hz
                  have hd := of_decide_eq_true hz.1
                  obtain ⟨ws, h1, ra⟩ := lst_at S q
                  refine mt_insert pins s σ H _ _ v us Q I rx rv ⟨α k, ws, i, w, e, rfl, h1, ra.length ▸ hd.1, hd.2.1, hd.2.2, ?_⟩
                  refine set_lst S q (all_one hz.2) ?_ (((ra.take _).append (.cons rw' .nil)).append (ra.drop _)) .non p
                  have a1 := hbs_app (xs.take i.toNat ++ [y]) (xs.drop i.toNat)
                  have a2 := hbs_app (xs.take i.toNat) [y]
                  have a3 := hbs_take xs i.toNat
                  have a4 := hbs_drop xs i.toNat
                  omega
                | dct _ => exact False.elim h2
                | ins _ _ => exact False.elim h2
            | _ => exact False.elim h
    | _ => cases ts with
      | nil => exact False.elim h
      | cons i ts => cases i <;> (cases ts with
        | nil => exact False.elim h
        | cons _ ts => cases ts <;> exact False.elim h)
  | pop =>
    cases tx with
    | root k =>
      have e := root_at S r1
      cases ts with
      | nil =>
        cases rs
        have h2 : Post (c.w N) (Rep (c.w N)) n0 α R H (match R[k]? with
          | some (.lst xs) => match xs[xs.length - 1]? with
            | some v => .ok v (R.set k (.lst xs.dropLast))
            | none => .no
          | _ => .no) Q E := h
        cases q : R[k]? with
        | none => rw [q] at h2; exact False.elim h2
        | some o =>
          rw [q] at h2
          cases o with
          | lst xs =>
            obtain ⟨ws, h1, ra⟩ := lst_at S q
            try dsimp only at h2
            cases q2 : xs[xs.length - 1]? with
            | none => rw [q2] at h2; exact False.elim h2
            | some y =>
              rw [q2] at h2
              obtain ⟨w, e2, rw'⟩ := ra.get q2
              refine mt_pop pins s σ H _ _ v us Q I rx rv ⟨α k, ws, w, e, rfl, h1, ra.length ▸ e2, ?_⟩
              refine set_lst (put := []) S q rfl ?_ ra.dropLast rw' h2
              rw [List.dropLast_eq_take]
              exact Nat.le_trans (hbs_take _ _) (Nat.le_max_left _ _)
          | dct _ => exact False.elim h2
          | ins _ _ => exact False.elim h2
      | cons i ts =>
        cases ts with
        | cons _ _ => cases i <;> exact False.elim h
        | nil =>
          obtain ⟨iv, rfl, ri⟩ := rs.one
          cases i with
          | int i =>
            cases ri
            have h2 : Post (c.w N) (Rep (c.w N)) n0 α R H (match R[k]? with
              | some (.lst xs) => match guardO (decide (-(2 ^ 63) ≤ i ∧ i < 2 ^ 63)) (ixN xs.length i) with
                | some j => match xs[j]? with
                  | some v => .ok v (R.set k (.lst (xs.eraseIdx j)))
                  | none => .no
                | none => .no
              | _ => .no) Q E := h
            cases q : R[k]? with
            | none => rw [q] at h2; exact False.elim h2
            | some o =>
              rw [q] at h2
              cases o with
              | lst xs =>
                obtain ⟨ws, h1, ra⟩ := lst_at S q
                try dsimp only at h2
                cases q1 : guardO (decide (-(2 ^ 63) ≤ i ∧ i < 2 ^ 63)) (ixN xs.length i) with
                | none => rw [q1] at h2; exact False.elim h2
                | some j =>
                  rw [q1] at h2
                  obtain ⟨hz, q1⟩ := guardO_some q1
                  have hd := of_decide_eq_true hz
                  try dsimp only at h2
                  cases q2 : xs[j]? with
                  | none => rw [q2] at h2; exact False.elim h2
                  | some y =>
                    rw [q2] at h2
                    obtain ⟨w, e2, rw'⟩ := ra.get q2
                    refine mt_popAt pins s σ H _ _ v us Q I rx rv ⟨α k, ws, i, j, w, e, rfl, h1, hd.1, hd.2, (ixN_seq (ra.length ▸ q1)).1, e2, ?_⟩
                    exact set_lst (put := []) S q rfl (Nat.le_trans (hbs_erase _ _) (Nat.le_max_left _ _)) (ra.eraseIdx j) rw' h2
              | dct _ => exact False.elim h2
              | ins _ _ => exact False.elim h2
          | _ => exact False.elim h
    | _ => cases ts with
      | nil => exact False.elim h
      | cons i ts => cases i <;> cases ts <;> exact False.elim h
  | extend =>
    cases tx with
    | root k =>
      cases ts with
      | nil => exact False.elim h
      | cons y ts =>
        cases ts with
        | cons _ _ => exact False.elim h
        | nil =>
          obtain ⟨w, rfl, rw'⟩ := rs.one
          have e := root_at S r1
          have h2 : Post (c.w N) (Rep (c.w N)) n0 α R H (match R[k]?, asLm R y with
            | some (.lst xs), some ys => guardR (decide (xs.length + ys.length ≤ sizeLine) && ys.all (mayPut n0 k)) (.ok .non (R.set k (.lst (xs ++ ys))))
            | _, _ => .no) Q E := h
          cases q : R[k]? with
          | none => rw [q] at h2; exact False.elim h2
          | some o =>
            rw [q] at h2
            cases o with
            | lst xs =>
              try dsimp only at h2
              cases q2 : asLm R y with
              | none => rw [q2] at h2; exact False.elim h2
              | some ys =>
                rw [q2] at h2
                obtain ⟨hz, p⟩ := Post.guard h2
                rw [Bool.and_eq_true] at hz
                obtain ⟨ws, h1, ra⟩ := lst_at S q
                obtain ⟨b, zs, rfl, hb, rb⟩ := asLm_ok S rw' q2
                have hd := of_decide_eq_true hz.1
                refine mt_extend pins s σ H _ _ v us Q I rx rv ⟨α k, b, ws, zs, e, rfl, h1, hb, by rw [← ra.length, ← rb.length]; exact hd, ?_⟩
                exact set_lst S q hz.2 (hbs_app xs ys) (ra.append rb) .non p
            | dct _ => exact False.elim h2
            | ins _ _ => exact False.elim h2
    | _ => cases ts with
      | nil => exact False.elim h
      | cons y ts => cases ts <;> exact False.elim h
  | get =>
    cases ts with
    | nil => cases tx <;> exact False.elim h
    | cons y ts =>
      cases ts with
      | nil =>
        obtain ⟨w, rfl, rw'⟩ := rs.one
        have h2 : Post (c.w N) (Rep (c.w N)) n0 α R H (match asD R tx, tKey y with
          | some kvs, some k => .ok (((kvs.find? fun kv => decide (kv.1 = k)).map (·.2)).getD .non) R
          | _, _ => .no) Q E := by cases tx <;> exact h
        cases q : asD R tx with
        | none => rw [q] at h2; exact False.elim h2
        | some kvs =>
          rw [q] at h2
          try dsimp only at h2
          cases q2 : tKey y with
          | none => rw [q2] at h2; exact False.elim h2
          | some k =>
            rw [q2] at h2
            obtain ⟨a, ws, rfl, ha, ra⟩ := asD_ok S r1 q
            have ek := tKey_ok rw' q2
            subst ek
            obtain ⟨u, rfl, ru⟩ := vals1 rv
            obtain rfl : v = Value.ref a := rx
            refine d_get1 (by omega) I (DGet.k ha) ru fun w' s3 I3 rw2 => ⟨_, H, I3, rw2, ?_⟩
            obtain ⟨f1, f2⟩ := ra.find (k := k)
            try dsimp only at h2
            cases q3 : (kvs.find? fun kv => decide (kv.1 = k)).map (·.2) with
            | none => rw [q3] at h2; rw [f2 q3]; exact h2.ok S .non
            | some t =>
              rw [q3] at h2
              obtain ⟨w4, e4, r4⟩ := f1 t q3
              rw [e4]
              exact h2.ok S r4
      | cons d ts =>
        cases ts with
        | cons _ _ => cases tx <;> exact False.elim h
        | nil =>
          obtain ⟨w, wd, rfl, rw', rd⟩ := rs.two
          have h2 : Post (c.w N) (Rep (c.w N)) n0 α R H (match asD R tx, tKey y with
            | some kvs, some k => .ok (((kvs.find? fun kv => decide (kv.1 = k)).map (·.2)).getD d) R
            | _, _ => .no) Q E := by cases tx <;> exact h
          cases q : asD R tx with
          | none => rw [q] at h2; exact False.elim h2
          | some kvs =>
            rw [q] at h2
            try dsimp only at h2
            cases q2 : tKey y with
            | none => rw [q2] at h2; exact False.elim h2
            | some k =>
              rw [q2] at h2
              obtain ⟨a, ws, rfl, ha, ra⟩ := asD_ok S r1 q
              have ek := tKey_ok rw' q2
              subst ek
              obtain ⟨u, u2, rfl, ru, ru2⟩ := vals2 rv
              obtain rfl : v = Value.ref a := rx
              refine d_get2 (by omega) I (DGet.k ha) ru ru2 fun w' s3 I3 rw2 => ⟨_, H, I3, rw2, ?_⟩
              obtain ⟨f1, f2⟩ := ra.find (k := k)
              try dsimp only at h2
              cases q3 : (kvs.find? fun kv => decide (kv.1 = k)).map (·.2) with
              | none => rw [q3] at h2; rw [f2 q3]; exact h2.ok S rd
              | some t =>
                rw [q3] at h2
                obtain ⟨w4, e4, r4⟩ := f1 t q3
                rw [e4]
                exact h2.ok S r4
  | join =>
    cases tx with
    | str z =>
      cases ts with
      | nil => exact False.elim h
      | cons y ts =>
        cases ts with
        | cons _ _ => exact False.elim h
        | nil =>
          obtain ⟨w, rfl, rw'⟩ := rs.one
          cases r1
          have h2 : Post (c.w N) (Rep (c.w N)) n0 α R H (match (asL R y).bind strsOf with
            | some ys => guardR (decide ((ys.map (·.length)).sum + ys.length * z.length ≤ 16777216)) (.ok (.str (Txt.join z ys)) R)
            | none => .no) Q E := h
          cases q : asL R y with
          | none => rw [q] at h2; exact False.elim h2
          | some xs =>
            rw [q] at h2
            obtain ⟨a, ws, rfl, ha, ra⟩ := asL_ok S rw' q
            have h3 : Post (c.w N) (Rep (c.w N)) n0 α R H (match strsOf xs with
              | some ys => guardR (decide ((ys.map (·.length)).sum + ys.length * z.length ≤ 16777216)) (.ok (.str (Txt.join z ys)) R)
              | none => .no) Q E := h2
            cases q2 : strsOf xs with
            | none => rw [q2] at h3; exact False.elim h3
            | some ys =>
              rw [q2] at h3
              obtain ⟨hz, p⟩ := Post.guard h3
              rw [strs_ok ra q2] at ha
              exact mt_join pins s σ H _ _ v us Q I rx rv ⟨z, a, ys, rfl, rfl, .inl (xo.K ▸ ha), of_decide_eq_true hz, p.ok S (.str _)⟩
    | _ => cases ts with
      | nil => exact False.elim h
      | cons y ts => cases ts <;> exact False.elim h
end
end Pv

/-! E10: method calls, fields, own methods, isinstance, list(range), objects that stand hidden, dict displays. -/
namespace Pv
open PySem PySem.Spec PyProof.Rows L2
section
variable {f : Cf} {X : Cx} {a b d e o : Expr} {es : List Expr} {ia ib id ie io : Ex} {ies : Exs} {pos apos cpos : Pos} {σV : L2.St} {H : Hp}
/-! ### methods of built-in types -/
theorem mtOk_ok {N : Addr → Prop} {α : Nat → Addr} {R : Rs} {m : Mt} {tx : TV} {x : V} (xo : Xo (f.k N) X) (S : SR (f.k N) α R H) (r : Rep (f.k N) α R.length H tx x) (h : mtOk m tx R = true) : tyV X.K m.ty x H := by
  have lst : (asLm R tx).isSome = true → tyV X.K "list" x H := fun h => by
    cases q : asLm R tx with
    | none => rw [q] at h; cases h
    | some xs =>
      obtain ⟨a, vs, rfl, ha, _⟩ := asLm_ok S r q
      exact .inl ⟨rfl, vs, .inl (.inl ha)⟩
  cases m with
  | get =>
    have h : (asD R tx).isSome = true := h
    cases q : asD R tx with
    | none => rw [q] at h; cases h
    | some xs =>
      obtain ⟨a, vs, rfl, ha, _⟩ := asD_ok S r q
      exact .inr (.inr (.inl ⟨rfl, .inl ⟨vs, ha⟩⟩))
  | join =>
    cases tx with
    | str s => cases r; rfl
    | _ => cases h
  | append => exact lst h
  | insert => exact lst h
  | pop => exact lst h
  | extend => exact lst h
theorem At.mth {m : Mt} {r : Bool} {Q : VK} (xo : Xo f.c X) (h : tE f (.mth m r io ies) σV H Q) :
    tE f io σV H fun x H1 => tyV X.K m.ty x H1 ∧ tA f ies σV H1 fun vs H2 => rEvM f.c f.n0 (f.Eat σV) m x vs H2 Q := by
  obtain ⟨N, σ, α, R, hn, hs, S, p⟩ := h
  have e1 : evE f.G f.n0 (.mth m r io ies) σ R = (evE f.G f.n0 io σ R).bind fun x R1 => guardR (mtOk m x R1) ((evs f.G f.n0 ies σ R1).bind fun vs R2 => mthV f.n0 m x vs R2) := by rw [evE]
  rw [e1] at p
  refine ⟨N, σ, α, R, hn, hs, S, (Post.bind p).mono ?_⟩
  rintro x H1 ⟨α1, R1, tx, L1, S1, r1, p⟩
  obtain ⟨hz, p⟩ := Post.guard p
  refine ⟨mtOk_ok (xo.w N) S1 r1 hz, N, σ, α1, R1, Nat.le_trans hn L1.len, hs.later L1, S1, (Post.bind (rel := Reps (f.k N)) p).mono ?_⟩
  rintro vs H2 ⟨α2, R2, ts, L2, S2, r2, p⟩
  exact ⟨N, α2, R2, tx, ts, Nat.le_trans (Nat.le_trans hn L1.len) L2.len, S2, r1.later L2, r2, p⟩
theorem q_mth (xo : Xo f.c X) (m : Mt) (r : Bool) {name : Str} (hname : name = m.nm) (ho : PE X o (tE f io)) (ha : PA X (e :: es) (tA f ies))
    (hbase : attributeBase o name X.env (eval o X.env) = eval o X.env)
    (hfew : ((backTo cpos (starEach (e :: es) X.env)).all (fun x => !x.1) && (backToKw cpos (keywordEach [] X.env)).all (fun x => x.1.isSome)
      && decide ((e :: es).length + ([] : List Keyword).length + (if ([] : List Keyword).isEmpty then 0 else 1) < 30)) = true)
    (hline : (apos.endLine == cpos.line) = true) (hs : starEach (e :: es) X.env = (false, eval e X.env) :: starEach es X.env) (hplain : (backTo cpos (starEach es X.env)).any (·.1) = false) :
    PE X (.Call (.Attribute o name apos) (e :: es) [] cpos) (tE f (.mth m r io ies)) := by
  subst hname
  exact ⟨fun pins s σV H Q I h => (pe_bm m.plain m.slot m.hty (mt_Mt xo m (n0 := f.n0) (E := f.Eat σV)) ho ha hbase hfew hline hs hplain).run pins s σV H Q I (At.mth xo h)⟩
theorem q_mth0 (xo : Xo f.c X) (m : Mt) (r : Bool) {name : Str} (hname : name = m.nm) (ho : PE X o (tE f io)) (hbase : attributeBase o name X.env (eval o X.env) = eval o X.env) (hline : (apos.endLine == cpos.line) = true) :
    PE X (.Call (.Attribute o name apos) [] [] cpos) (tE f (.mth m r io .nil)) := by
  subst hname
  refine ⟨fun pins s σV H Q I h => (pe_bm0 m.plain m.slot m.hty (mt_Mt xo m (n0 := f.n0) (E := f.Eat σV)) ho hbase hline).run pins s σV H Q I ?_⟩
  refine tE_mono (At.mth xo h) fun x H1 ⟨h1, h2⟩ => ⟨h1, ?_⟩
  obtain ⟨N, σ, α, R, hn, hs, S, p⟩ := h2
  have e1 : evs f.G f.n0 .nil σ R = .ok [] R := by rw [evs]
  rw [e1] at p
  exact p.ok S .nil
/-! ### fields -/
/-- what a name is to the classes -/
def FldOk (f : Cf) (K : PySem.W.Frag) (nm : Str) : Prop := ∀ j, match f.G.fldk j nm with
  | .fld => Cls K (f.c.cl j) ∧ NoAttr K (f.c.cl j) nm
  | .prop _ => False
  | .no => True
theorem q_fld {nm : Str} (he : PE X e (tE f ie)) (hk : FldOk f X.K nm) (hb : attributeBase e nm X.env (eval e X.env) = eval e X.env) : PE X (.Attribute e nm pos) (tE f (.fld ie nm)) := PEx.imp (pe_fld he hb) fun σV H Q h => by
  obtain ⟨N, σ, α, R, hn, hs, S, p⟩ := h
  have e1 : evE f.G f.n0 (.fld ie nm) σ R = (evE f.G f.n0 ie σ R).bind fun x R1 => match asI R1 x with
    | some (c, fs) => match f.G.fldk c nm with
      | .prop g => f.G.call f.n0 g [x] R1
      | .fld => ofO (fs.lookup nm) R1
      | .no => .no
    | none => .no := by rw [evE] <;> rfl
  rw [e1] at p
  refine ⟨N, σ, α, R, hn, hs, S, (Post.bind p).mono ?_⟩
  rintro x H1 ⟨α1, R1, tx, L1, S1, r1, p⟩
  try dsimp only at p
  cases q : asI R1 tx with
  | none => rw [q] at p; exact False.elim p
  | some cf =>
    obtain ⟨j, fs⟩ := cf
    rw [q] at p
    try dsimp only at p
    obtain ⟨a, dx, vs, rfl, ha, rf⟩ := asI_ok S1 r1 q
    have hj := hk j
    cases q2 : f.G.fldk j nm with
    | no => rw [q2] at p; exact False.elim p
    | prop g => rw [q2] at hj; exact False.elim hj
    | fld =>
      rw [q2] at p hj
      obtain ⟨t, et, p⟩ := Post.ofO p
      obtain ⟨v, hv, rv⟩ := rf.look.1 t et
      exact ⟨a, f.c.cl j, dx, vs, v, rfl, ha, hj.1, hj.2, hv, p.ok S1 rv⟩
/-! ### isinstance -/
structure KdOk (f : Cf) (K : PySem.W.Frag) (k : Kd) (u : Value) : Prop where
  tag : ∀ t : Tgn, PySem.W.kitOne K (.type t.nm) u = some (kdTag t k)
  own : ∀ j, (f.G.init j).isSome = true → PySem.W.kitOne K (.ref (f.c.cl j)) u = some (kdOwn f.G j k)
/-- what isinstance asks of the classes -/
structure InsOk (K : PySem.W.Frag) (C : Addr) : Prop where
  cl : Cls K C
  ha : PySem.W.findIn K (.ref C) "__class__" = some (some (.builtin "object.__class__"))
  hn : PySem.W.specialIn K (.builtin "object.__class__") "__get__" = some (some (.builtin "getset_descriptor.__get__"))
  htk : PySem.W.takesIn K (.builtin "object.__class__") = some true
  hm : PySem.W.mroIn K C (.type "object") = some true
theorem tyX_sqL {K : PySem.W.Frag} {a : Addr} {xs : List V} (h : SqL K H a xs) : TyX K H (.ref a) (.type "list") := by
  rcases h with h | ⟨o, its, n, h1, h2, _⟩
  · rcases h with h | ⟨o, h⟩
    · exact .base (.lst h)
    · exact .base (.frz h)
  · exact .kList h1 h2
theorem tyX_sqT {K : PySem.W.Frag} {a : Addr} {xs : List V} (h : SqT K H a xs) : TyX K H (.ref a) (.type "tuple") := by
  rcases h with h | ⟨o, its, n, h1, h2, _⟩
  · rcases h with h | ⟨o, h⟩
    · exact .base (.tup h)
    · exact .fTuple h
  · exact .kTuple h1 h2
/-- a tag's value -/
def tagU (c : Kc) : Tgn ⊕ Nat → Value
  | .inl t => .type t.nm
  | .inr j => .ref (c.cl j)
theorem tag_ok {c : Kc} {K : PySem.W.Frag} (hK : c.K = K) {α : Nat → Addr} {R : Rs} {tx : TV} {x : V} (S : SR c α R H) (r : Rep c α R.length H tx x) {g : Tgn ⊕ Nat} (hi : ∀ j, g = .inr j → InsOk K (c.cl j)) (h : tagOf R tx = some g) : TyX K H x (tagU c g) := by
  have lst : ∀ xs, asL R tx = some xs → g = .inl .lst → TyX K H x (tagU c g) := fun xs q e => by
    obtain ⟨a, vs, rfl, ha, _⟩ := asL_ok S r q
    subst e; exact tyX_sqL (hK ▸ ha)
  have dct : ∀ xs, asD R tx = some xs → g = .inl .dct → TyX K H x (tagU c g) := fun xs q e => by
    obtain ⟨a, vs, rfl, ha, _⟩ := asD_ok S r q
    subst e; exact .base (.dK ha)
  have ins : ∀ j fs, asI R tx = some (j, fs) → g = .inr j → TyX K H x (tagU c g) := fun j fs q e => by
    obtain ⟨a, dx, vs, rfl, ha, _⟩ := asI_ok S r q
    have z := hi j e
    subst e; exact .base (.ins ha z.cl z.ha z.hn z.htk z.hm)
  cases tx with
  | non => cases h; cases r; exact .base .non
  | bl b => cases h; cases r; exact .base (.bl _)
  | int i => cases h; cases r; exact .base (.int _)
  | str s => cases h; cases r; exact .base (.str _)
  | ty s => cases h
  | lst xs => cases h; exact lst xs rfl rfl
  | klst xs => cases h; exact lst xs rfl rfl
  | tup xs =>
    cases h
    obtain ⟨a, vs, rfl, ha, _⟩ := tup_inv r
    exact tyX_sqT (hK ▸ ha)
  | dct xs => cases h; exact dct xs rfl rfl
  | ins j xs => cases h; exact ins j xs rfl rfl
  | root k =>
    have h2 : (match R[k]? with
      | some (.lst _) => some (Sum.inl Tgn.lst)
      | some (.dct _) => some (.inl .dct)
      | some (.ins c _) => some (.inr c)
      | none => none) = some g := h
    cases q : R[k]? with
    | none => rw [q] at h2; cases h2
    | some ob =>
      rw [q] at h2
      cases ob with
      | lst xs => cases h2; exact lst xs (by show (match R[k]? with | some (.lst xs) => some xs | _ => none) = _; rw [q]) rfl
      | dct xs => cases h2; exact dct xs (by show (match R[k]? with | some (.dct xs) => some xs | _ => none) = _; rw [q]) rfl
      | ins j xs => cases h2; exact ins j xs (by show (match R[k]? with | some (.ins c fs) => some (c, fs) | _ => none) = _; rw [q]) rfl
theorem kd_ok {N : Addr → Prop} {α : Nat → Addr} {R : Rs} {tx : TV} {x : V} {k : Kd} {u : Value} {b : Bool} (xo : Xo (f.k N) X) (S : SR (f.k N) α R H) (r : Rep (f.k N) α R.length H tx x) (hI : ∀ j, (f.G.init j).isSome = true → InsOk X.K (f.c.cl j)) (hk : KdOk f X.K k u)
    (h : kdOf f.G R tx k = some b) : ∃ g, tagOf R tx = some g ∧ TyX X.K H x (tagU f.c g) ∧ PySem.W.kitOne X.K (tagU f.c g) u = some b := by
  unfold kdOf at h
  cases q : tagOf R tx with
  | none => rw [q] at h; cases h
  | some g =>
    rw [q] at h
    cases g with
    | inl t =>
      cases h
      exact ⟨_, rfl, tag_ok xo.K.symm S r (fun j e => by cases e) q, hk.tag t⟩
    | inr j =>
      obtain ⟨h1, h2⟩ := guardO_some (show guardO (f.G.init j).isSome (some (kdOwn f.G j k)) = some b from h)
      cases h2
      exact ⟨_, rfl, tag_ok xo.K.symm S r (fun j' e => by cases e; exact hI j h1) q, hk.own j h1⟩
theorem evE_isa {G : Ga} {n0 : Nat} {σ : Slots} {R : Rs} {ks : List Kd} : evE G n0 (.isa ia ks) σ R = (evE G n0 ia σ R).bind fun x R1 => ofO ((isaV G R1 x ks).map .bl) R1 := by rw [evE]
theorem q_isa1 (xo : Xo f.c X) {x : Str} {p : Pos} {k : Kd} {c : Expr} {v : V} {u : Value} (hI : ∀ j, (f.G.init j).isSome = true → InsOk X.K (f.c.cl j)) (hk : KdOk f X.K k u) (hc : PE X c (tC v)) (cv : ClsV v u) (ha : PE X a (tE f ia))
    (hg : Gl X x) (hm : X.mg x = none) (hv : bootBuiltins x = some (.builtin "isinstance")) (hn : x ≠ "__name__") (hdb : (x == ("__debug__" : Str)) = false)
    (h1 : starEach [a, c] X.env = (false, eval a X.env) :: starEach [c] X.env) (h2 : starEach [c] X.env = (false, eval c X.env) :: starEach [] X.env) (hpl : (backTo pos (starEach [c] X.env)).any (·.1) = false) :
    PE X (.Call (.Name x p) [a, c] [] pos) (tE f (.isa ia [k])) :=
  PEx.imp (pe_callB call_isi hg hm hv (pa_cons ha (pa_cons hc pa_nil h2) h1) hn hdb h1 hpl) fun σV H Q h => by
    obtain ⟨N, σ, α, R, hn, hs, S, p⟩ := h
    rw [evE_isa] at p
    refine ⟨N, σ, α, R, hn, hs, S, (Post.bind p).mono ?_⟩
    rintro y H1 ⟨α1, R1, tx, L1, S1, r1, p⟩
    obtain ⟨t, et, p⟩ := Post.ofO p
    have e2 : isaV f.G R1 tx [k] = (kdOf f.G R1 tx k).map (· || false) := by
      show (match kdOf f.G R1 tx k, isaV f.G R1 tx [] with | some b, some c => some (b || c) | _, _ => none) = _
      cases kdOf f.G R1 tx k <;> rfl
    rw [e2] at et
    cases q : kdOf f.G R1 tx k with
    | none => rw [q] at et; cases et
    | some b =>
      rw [q] at et
      cases et
      obtain ⟨g, _, ty, hkit⟩ := kd_ok (xo.w N) S1 r1 hI hk q
      rw [show (fun x => x || false) b = b from Bool.or_false b] at p
      exact ⟨y, v, _, u, b, rfl, cv, ty, hkit, p.ok S1 (.bl b)⟩
theorem q_isa2 (xo : Xo f.c X) {x : Str} {p pt : Pos} {kt : Nat} {k k2 : Kd} {c c2 : Expr} {v v2 : V} {u u2 : Value} (hI : ∀ j, (f.G.init j).isSome = true → InsOk X.K (f.c.cl j)) (hk : KdOk f X.K k u) (hk2 : KdOk f X.K k2 u2) (hc : PE X c (tC v)) (hc2 : PE X c2 (tC v2)) (cv : ClsV v u) (cv2 : ClsV v2 u2) (ha : PE X a (tE f ia))
    (hg : Gl X x) (hm : X.mg x = none) (hv : bootBuiltins x = some (.builtin "isinstance")) (hn : x ≠ "__name__") (hdb : (x == ("__debug__" : Str)) = false)
    (h0 : starEach [c, c2] X.env = (false, eval c X.env) :: starEach [c2] X.env) (h0' : starEach [c2] X.env = (false, eval c2 X.env) :: starEach [] X.env)
    (h1 : starEach [a, .Tuple [c, c2] kt pt] X.env = (false, eval a X.env) :: starEach [.Tuple [c, c2] kt pt] X.env) (h2 : starEach [.Tuple [c, c2] kt pt] X.env = (false, eval (.Tuple [c, c2] kt pt) X.env) :: starEach [] X.env) (hpl : (backTo pos (starEach [.Tuple [c, c2] kt pt] X.env)).any (·.1) = false) :
    PE X (.Call (.Name x p) [a, .Tuple [c, c2] kt pt] [] pos) (tE f (.isa ia [k, k2])) :=
  PEx.imp (pe_callB call_isiT hg hm hv (pa_cons ha (pa_cons (pe_tup (pa_cons hc (pa_cons hc2 pa_nil h0') h0)) pa_nil h2) h1) hn hdb h1 hpl) fun σV H Q h => by
    obtain ⟨N, σ, α, R, hn, hs, S, p⟩ := h
    rw [evE_isa] at p
    refine ⟨N, σ, α, R, hn, hs, S, (Post.bind p).mono ?_⟩
    rintro y H1 ⟨α1, R1, tx, L1, S1, r1, p⟩
    obtain ⟨t, et, p⟩ := Post.ofO p
    have e2 : isaV f.G R1 tx [k, k2] = (match kdOf f.G R1 tx k, kdOf f.G R1 tx k2 with | some b, some c => some (b || c) | _, _ => none) := by
      show (match kdOf f.G R1 tx k, (match kdOf f.G R1 tx k2, isaV f.G R1 tx [] with | some b, some c => some (b || c) | _, _ => none) with | some b, some c => some (b || c) | _, _ => none) = _
      cases kdOf f.G R1 tx k <;> cases kdOf f.G R1 tx k2 <;> first | rfl | (show some (_ || (_ || false)) = _; rw [Bool.or_false])
    rw [e2] at et
    cases q : kdOf f.G R1 tx k with
    | none => rw [q] at et; cases et
    | some b =>
      cases q2 : kdOf f.G R1 tx k2 with
      | none => rw [q, q2] at et; cases et
      | some b2 =>
        rw [q, q2] at et
        cases et
        obtain ⟨g, hg1, ty, hkit⟩ := kd_ok (xo.w N) S1 r1 hI hk q
        obtain ⟨g2, hg2, _, hkit2⟩ := kd_ok (xo.w N) S1 r1 hI hk2 q2
        rw [hg1] at hg2
        cases hg2
        refine ⟨by show 2 ≤ sizeLine; decide, fun tp htp => ?_⟩
        have Lf : Later f.n0 α1 R1 H1 α1 R1 (upd H1 tp (.tup [v, v2])) := Later.fresh S1 htp
        obtain ⟨g', hg1', ty', _⟩ := kd_ok (xo.w N) (S1.fresh htp) (r1.later Lf) hI hk q
        rw [hg1] at hg1'
        cases hg1'
        refine ⟨y, tp, [v, v2], _, [u, u2], b || b2, rfl, upd_same, .cons cv (.cons cv2 .nil), ty', ?_, ?_⟩
        · refine kitAny_cons hkit (fun e => ?_) (fun e => by rw [e] <;> rfl)
          refine kitAny_cons hkit2 (fun e2 => by rw [e, e2] <;> rfl) (fun e2 => by rw [e2, Bool.or_true])
        · exact p _ _ _ Lf (S1.fresh htp) (.bl _)
/-! ### list(range(n)) -/
theorem q_lrng (r : Bool) {p1 p2 pos1 : Pos} (hc : X.calm = true) (hg : Gl X "list") (hm : X.mg "list" = none) (hg2 : Gl X "range") (hm2 : X.mg "range" = none) (ha : PE X a (tE f ia)) (na : starEach [a] X.env = (false, eval a X.env) :: starEach [] X.env)
    (na2 : starEach [.Call (.Name "range" p1) [a] [] pos1] X.env = (false, eval (.Call (.Name "range" p1) [a] [] pos1) X.env) :: starEach [] X.env) :
    PE X (.Call (.Name "list" p2) [.Call (.Name "range" p1) [a] [] pos1] [] pos) (tE f (.lrng r ia)) := PEx.imp (pe_listRg hc hg hm (prg_1 hg2 hm2 ha na) na2) fun σV H Q h => by
  obtain ⟨N, σ, α, R, hn, hs, S, p⟩ := h
  have e1 : evE f.G f.n0 (.lrng r ia) σ R = (evE f.G f.n0 ia σ R).bind fun x R1 => match x with
    | .int n => guardR (decide (0 ≤ n ∧ n < 1000000)) (alloc r (.lst ((List.range n.toNat).map fun (i : Nat) => TV.int (i : Int))) R1)
    | _ => .no := by rw [evE] <;> rfl
  rw [e1] at p
  refine ⟨N, σ, α, R, hn, hs, S, (Post.bind p).mono ?_⟩
  rintro x H1 ⟨α1, R1, tx, L1, S1, r1, p⟩
  cases tx with
  | int n =>
    cases r1
    obtain ⟨hz, p⟩ := Post.guard p
    have hz := of_decide_eq_true hz
    refine ⟨n, rfl, ?_, fun q hq => ?_⟩
    · exact RgOk.of_le (Int.le_refl _) (by omega) (by omega) hz.1
    · refine alloc_ok p S1 (Nat.le_trans hn L1.len) hq ⟨_, rfl, ?_⟩
      have e : rgV 0 n = (List.range n.toNat).map fun (i : Nat) => V.int (i : Int) := by
        unfold rgV
        rw [Int.sub_zero]
        refine List.map_congr_left fun i _ => ?_
        rw [Int.zero_add]
      rw [e]
      generalize List.range n.toNat = l
      induction l with
      | nil => exact .nil
      | cons i l ih => exact .cons (.int _) ih
  | _ => exact False.elim p
end
end Pv

/-! E11: objects that stand hidden while they are filled; dict displays; stores. -/
namespace Pv
open PySem PySem.Spec PyProof.Rows L2
/-- p hidden too -/
def addG (N : Addr → Prop) (p : Addr) : Addr → Prop := fun a => N a ∨ a = p
section
variable {c : Kc} {N N' : Addr → Prop} {α α2 : Nat → Addr} {n : Nat} {R R2 : Rs} {H H2 : Hp} {p : Addr} {ob ob0 : HO} {n0 : Nat}
theorem bad_ghost {a : Addr} {o : HO} (h : H a = some o) (hp : H p = none) (b : ¬ Bad (c.w N) α n a) : ¬ Bad (c.w (addG N p)) α n a := by
  rintro (z | z | z)
  · exact b (.inl z)
  · exact b (.inr z)
  · subst z; rw [h] at hp; cases hp
theorem keep_ghost {a : Addr} {o : HO} (h : H a = some o) (hp : H p = none) : upd H p ob a = some o := by rw [upd_ne (ne_of_none h hp)]; exact h
mutual
theorem Rep.ghost (hp : H p = none) : ∀ {x : TV} {v : V}, Rep (c.w N) α n H x v → Rep (c.w (addG N p)) α n (upd H p ob) x v
  | _, _, .non => .non
  | _, _, .bl b => .bl b
  | _, _, .int i => .int i
  | _, _, .str s => .str s
  | _, _, .ty s => .ty s
  | _, _, .lst h m r => .lst (keep_ghost h hp) (bad_ghost h hp m) (Reps.ghost hp r)
  | _, _, .klstF h m r => .klstF (keep_ghost h hp) (bad_ghost h hp m) (Reps.ghost hp r)
  | _, _, .klstK h r => .klstK h (Reps.ghost hp r)
  | _, _, .tup h m r => .tup (keep_ghost h hp) (bad_ghost h hp m) (Reps.ghost hp r)
  | _, _, .tupK h r => .tupK h (Reps.ghost hp r)
  | _, _, .dct h m r => .dct (keep_ghost h hp) (bad_ghost h hp m) (RepK.ghost hp r)
  | _, _, .ins h m r => .ins (keep_ghost h hp) (bad_ghost h hp m) (RepF.ghost hp r)
  | _, _, .root h => .root h
theorem Reps.ghost (hp : H p = none) : ∀ {x : List TV} {v : List V}, Reps (c.w N) α n H x v → Reps (c.w (addG N p)) α n (upd H p ob) x v
  | _, _, .nil => .nil
  | _, _, .cons a b => .cons (Rep.ghost hp a) (Reps.ghost hp b)
theorem RepK.ghost (hp : H p = none) : ∀ {x : List (Key × TV)} {v : List (Key × V)}, RepK (c.w N) α n H x v → RepK (c.w (addG N p)) α n (upd H p ob) x v
  | _, _, .nil => .nil
  | _, _, .cons a b => .cons (Rep.ghost hp a) (RepK.ghost hp b)
theorem RepF.ghost (hp : H p = none) : ∀ {x : List (Str × TV)} {v : List (Str × V)}, RepF (c.w N) α n H x v → RepF (c.w (addG N p)) α n (upd H p ob) x v
  | _, _, .nil => .nil
  | _, _, .cons a b => .cons (Rep.ghost hp a) (RepF.ghost hp b)
end
theorem RepO.ghost (hp : H p = none) {o : RO} {a : Addr} (h : RepO (c.w N) α n H o a) : RepO (c.w (addG N p)) α n (upd H p ob) o a := by
  cases o with
  | lst xs => obtain ⟨vs, h, r⟩ := h; exact ⟨vs, keep_ghost h hp, r.ghost hp⟩
  | dct xs => obtain ⟨vs, h, r⟩ := h; exact ⟨vs, keep_ghost h hp, r.ghost hp⟩
  | ins k xs => obtain ⟨dx, vs, h, r⟩ := h; exact ⟨dx, vs, keep_ghost h hp, r.ghost hp⟩
theorem SR.ghost (S : SR (c.w N) α R H) (hp : H p = none) : SR (c.w (addG N p)) α R (upd H p ob) := by
  refine ⟨fun a z => ?_, fun k hk z => ?_, fun k o h => (S.obj k o h).ghost hp, S.inj⟩
  · by_cases e : a = p
    · subst e; rw [upd_same]; exact fun z => nomatch z
    · rw [upd_ne e]
      rcases z with z | z
      · exact S.gh a z
      · exact absurd z e
  · rcases z with z | z
    · exact S.ng k hk z
    · obtain ⟨o, h⟩ := S.has hk
      rw [z, hp] at h; cases h
theorem StR.ghost {σ : Slots} {σV : L2.St} (s : StR (c.w N) α n H σ σV) (hp : H p = none) : StR (c.w (addG N p)) α n (upd H p ob) σ σV :=
  ⟨s.len, fun i x h => let ⟨v, h1, h2⟩ := s.at_ i x h; ⟨v, h1, h2.ghost hp⟩⟩
/-! the hidden object comes to light: as a tree -/
theorem bad_light {a : Addr} (b : ¬ Bad (c.w (addG N p)) α n a) : a ≠ p ∧ ¬ Bad (c.w N) α n a := ⟨fun z => b (.inr (.inr z)), fun z => b (z.imp id .inl)⟩
mutual
theorem Rep.light : ∀ {x : TV} {v : V}, Rep (c.w (addG N p)) α n H x v → Rep (c.w N) α n (upd H p ob) x v
  | _, _, .non => .non
  | _, _, .bl b => .bl b
  | _, _, .int i => .int i
  | _, _, .str s => .str s
  | _, _, .ty s => .ty s
  | _, _, .lst h m r => .lst (by rw [upd_ne (bad_light m).1]; exact h) (bad_light m).2 (Reps.light r)
  | _, _, .klstF h m r => .klstF (by rw [upd_ne (bad_light m).1]; exact h) (bad_light m).2 (Reps.light r)
  | _, _, .klstK h r => .klstK h (Reps.light r)
  | _, _, .tup h m r => .tup (by rw [upd_ne (bad_light m).1]; exact h) (bad_light m).2 (Reps.light r)
  | _, _, .tupK h r => .tupK h (Reps.light r)
  | _, _, .dct h m r => .dct (by rw [upd_ne (bad_light m).1]; exact h) (bad_light m).2 (RepK.light r)
  | _, _, .ins h m r => .ins (by rw [upd_ne (bad_light m).1]; exact h) (bad_light m).2 (RepF.light r)
  | _, _, .root h => .root h
theorem Reps.light : ∀ {x : List TV} {v : List V}, Reps (c.w (addG N p)) α n H x v → Reps (c.w N) α n (upd H p ob) x v
  | _, _, .nil => .nil
  | _, _, .cons a b => .cons (Rep.light a) (Reps.light b)
theorem RepK.light : ∀ {x : List (Key × TV)} {v : List (Key × V)}, RepK (c.w (addG N p)) α n H x v → RepK (c.w N) α n (upd H p ob) x v
  | _, _, .nil => .nil
  | _, _, .cons a b => .cons (Rep.light a) (RepK.light b)
theorem RepF.light : ∀ {x : List (Str × TV)} {v : List (Str × V)}, RepF (c.w (addG N p)) α n H x v → RepF (c.w N) α n (upd H p ob) x v
  | _, _, .nil => .nil
  | _, _, .cons a b => .cons (Rep.light a) (RepF.light b)
end
/-! and as a root -/
theorem bad_root {a : Addr} (b : ¬ Bad (c.w (addG N p)) α n a) : ¬ Bad (c.w N) (snocA α n p) (n + 1) a := by
  rintro (⟨k, hk, e⟩ | z)
  · by_cases h : k < n
    · rw [snocA_lt h] at e; exact b (.inl ⟨k, h, e⟩)
    · have : k = n := by omega
      subst this
      rw [snocA_at] at e
      exact b (.inr (.inr e.symm))
  · exact b (.inr (.inl z))
mutual
theorem Rep.toRoot : ∀ {x : TV} {v : V}, Rep (c.w (addG N p)) α n H x v → Rep (c.w N) (snocA α n p) (n + 1) (upd H p ob) x v
  | _, _, .non => .non
  | _, _, .bl b => .bl b
  | _, _, .int i => .int i
  | _, _, .str s => .str s
  | _, _, .ty s => .ty s
  | _, _, .lst h m r => .lst (by rw [upd_ne (bad_light m).1]; exact h) (bad_root m) (Reps.toRoot r)
  | _, _, .klstF h m r => .klstF (by rw [upd_ne (bad_light m).1]; exact h) (bad_root m) (Reps.toRoot r)
  | _, _, .klstK h r => .klstK h (Reps.toRoot r)
  | _, _, .tup h m r => .tup (by rw [upd_ne (bad_light m).1]; exact h) (bad_root m) (Reps.toRoot r)
  | _, _, .tupK h r => .tupK h (Reps.toRoot r)
  | _, _, .dct h m r => .dct (by rw [upd_ne (bad_light m).1]; exact h) (bad_root m) (RepK.toRoot r)
  | _, _, .ins h m r => .ins (by rw [upd_ne (bad_light m).1]; exact h) (bad_root m) (RepF.toRoot r)
  | _, _, .root (k := k) h => by
    have : V.ref (α k) = V.ref (snocA α n p k) := by rw [snocA_lt h]
    rw [this]
    exact .root (Nat.lt_succ_of_lt h)
theorem Reps.toRoot : ∀ {x : List TV} {v : List V}, Reps (c.w (addG N p)) α n H x v → Reps (c.w N) (snocA α n p) (n + 1) (upd H p ob) x v
  | _, _, .nil => .nil
  | _, _, .cons a b => .cons (Rep.toRoot a) (Reps.toRoot b)
theorem RepK.toRoot : ∀ {x : List (Key × TV)} {v : List (Key × V)}, RepK (c.w (addG N p)) α n H x v → RepK (c.w N) (snocA α n p) (n + 1) (upd H p ob) x v
  | _, _, .nil => .nil
  | _, _, .cons a b => .cons (Rep.toRoot a) (RepK.toRoot b)
theorem RepF.toRoot : ∀ {x : List (Str × TV)} {v : List (Str × V)}, RepF (c.w (addG N p)) α n H x v → RepF (c.w N) (snocA α n p) (n + 1) (upd H p ob) x v
  | _, _, .nil => .nil
  | _, _, .cons a b => .cons (Rep.toRoot a) (RepF.toRoot b)
end
theorem RepO.toRoot {o : RO} {a : Addr} (ha : a ≠ p) (h : RepO (c.w (addG N p)) α n H o a) : RepO (c.w N) (snocA α n p) (n + 1) (upd H p ob) o a := by
  cases o with
  | lst xs => obtain ⟨vs, h, r⟩ := h; exact ⟨vs, by rw [upd_ne ha]; exact h, r.toRoot⟩
  | dct xs => obtain ⟨vs, h, r⟩ := h; exact ⟨vs, by rw [upd_ne ha]; exact h, r.toRoot⟩
  | ins k xs => obtain ⟨dx, vs, h, r⟩ := h; exact ⟨dx, vs, by rw [upd_ne ha]; exact h, r.toRoot⟩
theorem RepO.light {o : RO} {a : Addr} (ha : a ≠ p) (h : RepO (c.w (addG N p)) α n H o a) : RepO (c.w N) α n (upd H p ob) o a := by
  cases o with
  | lst xs => obtain ⟨vs, h, r⟩ := h; exact ⟨vs, by rw [upd_ne ha]; exact h, r.light⟩
  | dct xs => obtain ⟨vs, h, r⟩ := h; exact ⟨vs, by rw [upd_ne ha]; exact h, r.light⟩
  | ins k xs => obtain ⟨dx, vs, h, r⟩ := h; exact ⟨dx, vs, by rw [upd_ne ha]; exact h, r.light⟩
theorem SR.notp (S : SR (c.w (addG N p)) α R H) {k : Nat} (hk : k < R.length) : α k ≠ p := fun z => S.ng k hk (.inr z)
theorem SR.light (S : SR (c.w (addG N p)) α R H) : SR (c.w N) α R (upd H p ob) := by
  refine ⟨fun a z => ?_, fun k hk z => S.ng k hk (.inl z), fun k o h => (S.obj k o h).light (S.notp (List.getElem?_eq_some_iff.mp h).1), S.inj⟩
  by_cases e : a = p
  · subst e; rw [upd_same]; exact fun z => nomatch z
  · rw [upd_ne e]; exact S.gh a (.inl z)
theorem SR.toRoot (hN : ¬ N p) (S : SR (c.w (addG N p)) α R H) {o : RO} (new : RepO (c.w N) (snocA α R.length p) (R.length + 1) (upd H p ob) o p) : SR (c.w N) (snocA α R.length p) (R ++ [o]) (upd H p ob) := by
  have hl : (R ++ [o]).length = R.length + 1 := by simp
  refine ⟨fun a z => ?_, fun k hk z => ?_, fun k q h => ?_, fun j k hj hk e => ?_⟩
  · by_cases e : a = p
    · subst e; rw [upd_same]; exact fun z => nomatch z
    · rw [upd_ne e]; exact S.gh a (.inl z)
  · rw [hl] at hk
    by_cases h : k < R.length
    · rw [snocA_lt h] at z; exact S.ng k h (.inl z)
    · have : k = R.length := by omega
      subst this
      rw [snocA_at] at z; exact hN z
  · by_cases hk : k < R.length
    · rw [List.getElem?_append_left hk] at h
      rw [snocA_lt hk, hl]
      exact (S.obj k q h).toRoot (S.notp hk)
    · have hk2 : k < (R ++ [o]).length := (List.getElem?_eq_some_iff.mp h).1
      have : k = R.length := by omega
      subst this
      rw [List.getElem?_append_right (Nat.le_refl _), Nat.sub_self] at h
      cases h
      rw [hl, snocA_at]; exact new
  · rw [hl] at hj hk
    by_cases h1 : j < R.length
    · rw [snocA_lt h1] at e
      by_cases h2 : k < R.length
      · rw [snocA_lt h2] at e; exact S.inj j k h1 h2 e
      · have : k = R.length := by omega
        subst this; rw [snocA_at] at e; exact absurd e (S.notp h1)
    · have : j = R.length := by omega
      subst this; rw [snocA_at] at e
      by_cases h2 : k < R.length
      · rw [snocA_lt h2] at e; exact absurd e.symm (S.notp h2)
      · omega
theorem upd_none {a : Addr} (h : upd H p ob a = none) : a ≠ p ∧ H a = none := by
  by_cases e : a = p
  · subst e; rw [upd_same] at h; cases h
  · rw [upd_ne e] at h; exact ⟨e, h⟩
theorem Later.light (L : Later n0 α R (upd H p ob0) α2 R2 H2) (hp : H p = none) : Later n0 α R H α2 R2 (upd H2 p ob) := by
  refine ⟨L.len, L.al, fun a o h hm => ?_, fun a h => ?_, fun a h => ?_, L.cl⟩
  · rw [upd_ne (ne_of_none h hp)]; exact L.keep a o (keep_ghost h hp) hm
  · obtain ⟨h1, h2⟩ := upd_none h
    exact (upd_none (L.trk a h2)).2
  · exact (L.mm a h).imp id fun z => (upd_none z).2
theorem Later.toRoot (L : Later n0 α R (upd H p ob0) α2 R2 H2) (hp : H p = none) (hn : n0 ≤ R2.length) {o : RO} : Later n0 α R H (snocA α2 R2.length p) (R2 ++ [o]) (upd H2 p ob) := by
  refine ⟨Nat.le_trans L.len (by simp), fun k hk => by rw [snocA_lt (Nat.lt_of_lt_of_le hk L.len)]; exact L.al k hk, fun a o h hm => ?_, fun a h => ?_, fun a ⟨k, hk, e⟩ => ?_, fun m hm h => (L.cl m hm h).snoc (Nat.le_trans hm hn)⟩
  · rw [upd_ne (ne_of_none h hp)]; exact L.keep a o (keep_ghost h hp) hm
  · obtain ⟨h1, h2⟩ := upd_none h
    exact (upd_none (L.trk a h2)).2
  · rw [List.length_append] at hk
    by_cases h : k < R2.length
    · rw [snocA_lt h] at e
      exact (L.mm a ⟨k, h, e⟩).imp id fun z => (upd_none z).2
    · have : k = R2.length := by have : [o].length = 1 := rfl; omega
      subst this
      rw [snocA_at] at e
      subst e; exact .inr hp
/-- the new object, at last -/
theorem light_ok {r : Bool} {o : RO} {Q : V → Hp → Prop} {E : Nat → Addr → Hp → Prop} (S0 : SR (c.w N) α R H) (hp : H p = none) (hn : n0 ≤ R.length) (L : Later n0 α R (upd H p ob0) α2 R2 H2) (S : SR (c.w (addG N p)) α2 R2 H2) (ho : HOof (c.w (addG N p)) α2 R2.length H2 o ob)
    (h : Post (c.w N) (Rep (c.w N)) n0 α R H (alloc r o R2) Q E) : Q (.ref p) (upd H2 p ob) := by
  have hN : ¬ N p := fun z => S0.gh p z hp
  cases r with
  | false =>
    refine h α2 (upd H2 p ob) (.ref p) (L.light hp) S.light ?_
    have hm : ¬ Bad (c.w N) α2 R2.length p := by
      rintro (⟨k, hk, e⟩ | z)
      · exact S.notp hk e
      · exact hN z
    cases o with
    | lst xs => obtain ⟨vs, rfl, q⟩ := ho; exact .lst upd_same hm q.light
    | dct xs => obtain ⟨vs, rfl, q⟩ := ho; exact .dct upd_same hm q.light
    | ins k xs => obtain ⟨dx, vs, rfl, q⟩ := ho; exact .ins upd_same hm q.light
  | true =>
    have hl : (R2 ++ [o]).length = R2.length + 1 := by simp
    refine h _ _ _ (L.toRoot hp (Nat.le_trans hn L.len)) (SR.toRoot hN S ?_) ?_
    · cases o with
      | lst xs => obtain ⟨vs, rfl, q⟩ := ho; exact ⟨vs, upd_same, q.toRoot⟩
      | dct xs => obtain ⟨vs, rfl, q⟩ := ho; exact ⟨vs, upd_same, q.toRoot⟩
      | ins k xs => obtain ⟨dx, vs, rfl, q⟩ := ho; exact ⟨dx, vs, upd_same, q.toRoot⟩
    · have : V.ref p = V.ref (snocA α2 R2.length p R2.length) := by rw [snocA_at]
      rw [this, hl]
      exact .root (Nat.lt_succ_self _)
/-- an evaluation while p is hidden -/
theorem Post.ghost {β γ δ ε : Type} {rel : Rel β γ} {rel2 : Rel δ ε} {r : Rz β} {g : β → Rs → Rz δ} {Q : ε → Hp → Prop} {E E' : Nat → Addr → Hp → Prop} (h : Post (c.w N) rel2 n0 α R H (r.noexc.bind g) Q E) :
    Post (c.w (addG N p)) rel n0 α R (upd H p ob0) r (fun x H2 => ∃ α2 R2 b, Later n0 α R (upd H p ob0) α2 R2 H2 ∧ SR (c.w (addG N p)) α2 R2 H2 ∧ rel α2 R2.length H2 b x ∧ Post (c.w N) rel2 n0 α R H (g b R2) Q E) E' := by
  cases r with
  | ok b R1 => exact fun α1 H1 x L1 S1 r1 => ⟨α1, R1, b, L1, S1, r1, h⟩
  | exc _ _ _ => exact False.elim h
  | no => exact False.elim h
end
section
variable {f : Cf} {X : Cx} {a b d e o : Expr} {es : List Expr} {ia ib id ie io : Ex} {ies : Exs} {pos apos cpos : Pos} {σV : L2.St} {H : Hp}
/-! ### dict displays -/
/-- the expressions of the pairs -/
inductive Prs (f : Cf) (X : Cx) : List (Option Expr) → List Expr → Exs → Prop
  | nil : Prs f X [] [] .nil
  | cons {k v : Expr} {ik iv : Ex} {ks : List (Option Expr)} {vs : List Expr} {ies : Exs} : PE X k (tE f ik) → PE X v (tE f iv) → Prs f X ks vs ies → Prs f X (some k :: ks) (v :: vs) (.cons ik (.cons iv ies))
/-- values in pairs -/
def unpair : List (V × V) → List V
  | [] => []
  | (a, b) :: r => a :: b :: unpair r
theorem Prs.pps {ks : List (Option Expr)} {vs : List Expr} (h : Prs f X ks vs ies) (pos : Pos) : ∃ trs, PPs X pos ks vs trs ∧ ∀ σV H (Q : List (V × V) → Hp → Prop), tA f ies σV H (fun us H' => ∀ ps, us = unpair ps → Q ps H') → tPairs trs σV H Q := by
  induction h with
  | nil => exact ⟨[], pps_nil, fun σV H Q ⟨N, σ, α, R, hn, hs, S, p⟩ => by
      have e1 : evs f.G f.n0 .nil σ R = .ok [] R := by rw [evs]
      rw [e1] at p
      exact p.ok S .nil [] rfl⟩
  | @cons k v ik iv ks vs ies hk hv _ ih =>
    obtain ⟨trs, h1, h2⟩ := ih
    refine ⟨(tE f ik, tE f iv) :: trs, pps_cons hk hv h1, fun σV H Q ⟨N, σ, α, R, hn, hs, S, p⟩ => ?_⟩
    have e1 : evs f.G f.n0 (.cons ik (.cons iv ies)) σ R = (evE f.G f.n0 ik σ R).bind fun x R1 => ((evE f.G f.n0 iv σ R1).bind fun y R2 => (evs f.G f.n0 ies σ R2).bind fun xs R3 => .ok (y :: xs) R3).bind fun xs R2 => .ok (x :: xs) R2 := by
      rw [evs]
      congr 1
    rw [e1] at p
    refine ⟨N, σ, α, R, hn, hs, S, (Post.bind p).mono ?_⟩
    rintro x H1 ⟨α1, R1, tx, L1, S1, r1, p⟩
    have e2 : ((evE f.G f.n0 iv σ R1).bind fun y R2 => (evs f.G f.n0 ies σ R2).bind fun xs R3 => .ok (y :: xs) R3).bind (fun xs R2 => Rz.ok (tx :: xs) R2) = (evE f.G f.n0 iv σ R1).bind fun y R2 => (evs f.G f.n0 ies σ R2).bind fun xs R3 => .ok (tx :: y :: xs) R3 := by
      cases evE f.G f.n0 iv σ R1 with
      | ok y R2 => simp only [Rz.bind_ok]; cases evs f.G f.n0 ies σ R2 <;> rfl
      | exc _ _ _ => rfl
      | no => rfl
    try dsimp only at p
    rw [e2] at p
    refine ⟨N, σ, α1, R1, Nat.le_trans hn L1.len, hs.later L1, S1, (Post.bind p).mono ?_⟩
    rintro y H2 ⟨α2, R2, ty, L2, S2, r2, p⟩
    refine h2 σV H2 _ ⟨N, σ, α2, R2, Nat.le_trans (Nat.le_trans hn L1.len) L2.len, (hs.later L1).later L2, S2, (Post.bind (rel := Reps (f.k N)) p).mono ?_⟩
    rintro us H3 ⟨α3, R3, ts, L3, S3, r3, p⟩ ps rfl
    exact p.ok S3 (.cons ((r1.later L2).later L3) (.cons (r2.later L3) r3)) ((x, y) :: ps) rfl
theorem pairs_ok {c : Kc} {α : Nat → Addr} {n : Nat} : ∀ {ts : List TV} {vs : List V} {ps : List (Key × TV)}, Reps c α n H ts vs → pairsOf ts = some ps → ∃ kvs, RepK c α n H ps kvs ∧ vs = unpair (kvs.map fun kv => (kV kv.1, kv.2))
  | _, _, _, .nil, h => by cases h; exact ⟨[], .nil, rfl⟩
  | _, _, _, .cons _ .nil, h => by cases h
  | _, _, ps, .cons (x := k) (v := w1) a (.cons (x := v) (xs := ts) (v := w2) (vs := vs) b r), h => by
    have h' : (match tKey k, pairsOf ts with
      | some k, some ps => some ((k, v) :: ps)
      | _, _ => none) = some ps := h
    cases q : tKey k with
    | none => rw [q] at h'; cases h'
    | some key =>
      cases q2 : pairsOf ts with
      | none => rw [q, q2] at h'; cases h'
      | some ps2 =>
        rw [q, q2] at h'
        cases h'
        obtain ⟨kvs, h1, h2⟩ := pairs_ok r q2
        refine ⟨(key, w2) :: kvs, .cons b h1, ?_⟩
        rw [tKey_ok a q, h2]
        rfl
theorem RepK.merge {c : Kc} {α : Nat → Addr} {n : Nat} : ∀ {ps : List (Key × TV)} {kvs : List (Key × V)} {xs : List (Key × TV)} {vs : List (Key × V)}, RepK c α n H xs vs → RepK c α n H ps kvs → RepK c α n H (mergeT xs ps) (mergeK vs kvs)
  | _, _, _, _, r, .nil => r
  | _, _, xs, vs, r, .cons (k := k) (x := x) (xs := ps) (v := v) (vs := kvs) a b => by
    have h := RepK.merge (RepK.put (k := k) a r) b
    exact h
theorem q_dctp (r : Bool) {ks : List (Option Expr)} {vs : List Expr} (h : Prs f X ks vs ies) (hall : ks.all (·.isSome) = true) (hl : ks.length = vs.length) (h0 : ks ≠ []) (h15 : ks.length ≤ 15) : PE X (.Dict ks vs pos) (tE f (.dctp r ies)) := by
  obtain ⟨trs, h1, h2⟩ := h.pps pos
  refine PEx.imp (pe_disp h1 hall hl h0 h15) fun σV H Q h => ?_
  obtain ⟨N, σ, α, R, hn, hs, S, p⟩ := h
  have e1 : evE f.G f.n0 (.dctp r ies) σ R = (evs f.G f.n0 ies σ R).noexc.bind fun vs R1 => match pairsOf vs with
    | some ps => guardR (decide (ps.length ≤ 15)) (alloc r (.dct (mergeT [] ps)) R1)
    | none => .no := by rw [evE] <;> rfl
  rw [e1] at p
  intro q hq
  refine h2 σV _ _ ⟨addG N q, σ, α, R, hn, hs.ghost hq, S.ghost hq, (Post.ghost (rel := Reps (f.k (addG N q))) p).mono ?_⟩
  rintro us H2 ⟨α2, R2, ts, L2, S2, r2, p⟩ ps hps
  cases q2 : pairsOf ts with
  | none => rw [q2] at p; exact False.elim p
  | some kts =>
    rw [q2] at p
    obtain ⟨hz, p⟩ := Post.guard p
    obtain ⟨kvs, h3, h4⟩ := pairs_ok r2 q2
    have inj : ∀ (a b : List (V × V)), unpair a = unpair b → a = b := by
      intro a
      induction a with
      | nil => intro b h; cases b with
        | nil => rfl
        | cons b bs => cases h
      | cons a as ih => intro b h; cases b with
        | nil => cases h
        | cons b bs =>
          have h' : a.1 :: a.2 :: unpair as = b.1 :: b.2 :: unpair bs := h
          injection h' with e1 e2
          injection e2 with e2 e3
          rw [ih bs e3]
          congr 1
          exact Prod.ext e1 e2
    have e5 : ps = kvs.map fun kv => (kV kv.1, kv.2) := inj _ _ (hps.symm.trans h4)
    refine ⟨L2.keep q _ upd_same (fun ⟨k, hk, e⟩ => ?_), kvs, e5, by rw [← h3.length]; exact of_decide_eq_true hz, ?_⟩
    · obtain ⟨ob, hob⟩ := S.has hk
      rw [e, hq] at hob; cases hob
    · exact light_ok (o := .dct (mergeT [] kts)) S hq hn L2 S2 ⟨_, rfl, RepK.merge .nil h3⟩ p
end
end Pv

/-! E12: stores. -/
namespace Pv
open PySem PySem.Spec PyProof.Rows L2
/-- slots that may differ from σ0 at ids alone -/
def RelT (σ0 : L2.St) (ids : List Nat) (c : Kc) : Rel Slots L2.St := fun α n H σ σV => StR c α n H σ σV ∧ σV.length = σ0.length ∧ ∀ i, i ∉ ids → σV[i]? = σ0[i]?
def tG (f : Cf) (t : Tg) : TG := fun v σV H Q => ∃ N σ α R x, f.n0 ≤ R.length ∧ StR (f.k N) α R.length H σ σV ∧ SR (f.k N) α R H ∧ Rep (f.k N) α R.length H x v ∧ Post (f.k N) (RelT σV t.ids (f.k N)) f.n0 α R H (evT f.G f.n0 t x σ R) Q (f.Eat σV)
def tGs (f : Cf) (ts : Tgs) : TGs := fun vs σV H Q => ∃ N σ α R xs, f.n0 ≤ R.length ∧ StR (f.k N) α R.length H σ σV ∧ SR (f.k N) α R H ∧ Reps (f.k N) α R.length H xs vs ∧ Post (f.k N) (RelT σV ts.ids (f.k N)) f.n0 α R H (evTs f.G f.n0 ts xs σ R) Q (f.Eat σV)
/-- errors are looked at whatever the slots are -/
def Flat (f : Cf) : Prop := ∀ k d σ σ' H, f.E k d σ H → f.E k d σ' H
theorem PGx.imp {X : Cx} {e : Expr} {t t' : TG} (h : PG X e t) (i : ∀ v σ H Q, t' v σ H Q → t v σ H Q) : PG X e t' := ⟨fun pins s σ H v u Q I r q => h.run pins s σ H v u Q I r (i v σ H Q q)⟩
theorem PGsx.imp {X : Cx} {e : List Expr} {t t' : TGs} (h : PGs X e t) (i : ∀ v σ H Q, t' v σ H Q → t v σ H Q) : PGs X e t' := ⟨fun pins s σ H v u Q I r q => h.run pins s σ H v u Q I r (i v σ H Q q)⟩
theorem PSet.or {X : Cx} {t u : TSet} (h : PSet X t) (k : PSet X u) : PSet X (fun o i v H Q => t o i v H Q ∨ u o i v H Q) := fun pins s σ H o i v ov iv w Q I ro ri rv q => q.elim (h pins s σ H o i v ov iv w Q I ro ri rv) (k pins s σ H o i v ov iv w Q I ro ri rv)
section
variable {f : Cf} {X : Cx} {a b d e o : Expr} {es : List Expr} {ia ib id ie io : Ex} {ies : Exs} {pos apos cpos : Pos} {σV : L2.St} {H : Hp}
theorem q_gname {i : Nat} (h : PG X e (gName i)) : PG X e (tG f (.name i)) := PGx.imp h fun v σV H Q ⟨N, σ, α, R, x, hn, hs, S, rv, p⟩ => by
  have e1 : evT f.G f.n0 (.name i) x σ R = .ok (σ.set i (some x)) R := by rw [evT]
  rw [e1] at p
  refine p α H _ Later.refl S ⟨hs.set rv i, List.length_set, fun j hj => ?_⟩
  rw [List.getElem?_set_ne]
  intro z
  exact hj (by show j ∈ [i]; rw [z]; exact List.mem_cons_self)
theorem q_gnil : PGs X [] (tGs f .nil) := PGsx.imp pgs_nil fun vs σV H Q ⟨N, σ, α, R, xs, hn, hs, S, rv, p⟩ => by
  cases rv with
  | nil =>
    have e1 : evTs f.G f.n0 .nil [] σ R = .ok σ R := by rw [evTs]
    rw [e1] at p
    exact ⟨rfl, p.ok S ⟨hs, rfl, fun _ _ => rfl⟩⟩
  | cons a b =>
    have e1 : ∀ x xs, evTs f.G f.n0 .nil (x :: xs) σ R = .no := fun x xs => by rw [evTs] <;> simp
    rw [e1] at p
    exact False.elim p
theorem q_gcons (fl : Flat f) {t : Tg} {ts : Tgs} (h1 : PG X e (tG f t)) (h2 : PGs X es (tGs f ts)) (hs : (assignEach (e :: es) X.env).map (·.2) = assign e X.env :: (assignEach es X.env).map (·.2)) : PGs X (e :: es) (tGs f (.cons t ts)) :=
  PGsx.imp (pgs_cons h1 h2 hs) fun vs σV H Q ⟨N, σ, α, R, xs, hn, hs, S, rv, p⟩ => by
    cases rv with
    | nil =>
      have e1 : evTs f.G f.n0 (.cons t ts) [] σ R = .no := by rw [evTs] <;> simp
      rw [e1] at p
      exact False.elim p
    | @cons x xs v vs r rs =>
      have e1 : evTs f.G f.n0 (.cons t ts) (x :: xs) σ R = (evT f.G f.n0 t x σ R).bind fun σ1 R1 => evTs f.G f.n0 ts xs σ1 R1 := by rw [evTs]
      rw [e1] at p
      refine ⟨v, vs, rfl, N, σ, α, R, x, hn, hs, S, r, (Post.bind p).mono ?_⟩
      rintro σV1 H1 ⟨α1, R1, σ1, L1, S1, ⟨st1, l1, o1⟩, p⟩
      refine ⟨N, σ1, α1, R1, xs, Nat.le_trans hn L1.len, st1, S1, rs.later L1, ?_⟩
      have p2 : Post (f.k N) (RelT σV1 ts.ids (f.k N)) f.n0 α1 R1 H1 (evTs f.G f.n0 ts xs σ1 R1) Q (f.Eat σV) := by
        cases q : evTs f.G f.n0 ts xs σ1 R1 with
        | ok σ2 R2 =>
          try dsimp only at p
          rw [q] at p
          intro α2 H2 σV2 L2 S2 ⟨st2, l2, o2⟩
          refine p α2 H2 σV2 L2 S2 ⟨st2, l2.trans l1, fun i hi => ?_⟩
          have hi : i ∉ t.ids ++ ts.ids := hi
          rw [List.mem_append, not_or] at hi
          rw [o2 i hi.2, o1 i hi.1]
        | exc k fs R2 => try dsimp only at p
                         rw [q] at p; exact p
        | no => try dsimp only at p
                rw [q] at p; exact p
      exact p2.exc fun k d H' h => fl k d _ _ H' h
theorem q_gtup (xo : Xo f.c X) (hc : X.calm = true) {ts : Tgs} {k : Nat} (h : PGs X es (tGs f ts)) (hn : (assignEach es X.env).length = ts.len) (hst : (assignEach es X.env).findIdx? (·.1) = none) : PG X (.Tuple es k pos) (tG f (.tup ts)) :=
  PGx.imp (pg_tup (n := ts.len) hc h hn hst) fun v σV H Q ⟨N, σ, α, R, x, hn, hs, S, rv, p⟩ => by
    have e1 : ∀ y, evT f.G f.n0 (.tup ts) y σ R = match y with
      | .tup xs => guardR (decide (xs.length = ts.len)) (evTs f.G f.n0 ts xs σ R)
      | _ => .no := fun y => by cases y <;> (rw [evT] <;> first | rfl | (intro _ h; cases h))
    rw [e1] at p
    cases x with
    | tup xs =>
      obtain ⟨hz, p⟩ := Post.guard p
      obtain ⟨a, ws, rfl, ha, ra⟩ := tup_inv rv
      exact ⟨a, ws, rfl, xo.K ▸ ha, ra.length ▸ of_decide_eq_true hz, N, σ, α, R, xs, hn, hs, S, ra, p⟩
    | _ => exact False.elim p
theorem q_gsub (xo : Xo f.c X) (ho : PE X o (tE f io)) (hi : PE X a (tE f ia))
    (ha : ∀ v, assign (.Subscript o a pos) X.env v = (do
      let ov ← holding [v] (eval o X.env)
      let iv ← holding [v, ov] (eval a X.env)
      standAt pos
      holding [v, ov, iv] (setItem ov iv v)
      release [v, ov, iv] [])) : PG X (.Subscript o a pos) (tG f (.sub io ia)) := by
  have hu := xo.hu
  refine PGx.imp (pg_sub ho hi (PSet.or set_list (set_dict (by omega))) ha) fun v σV H Q ⟨N, σ, α, R, x, hn, hs, S, rv, p⟩ => ?_
  have e1 : evT f.G f.n0 (.sub io ia) x σ R = (evE f.G f.n0 io σ R).bind fun y R1 => (evE f.G f.n0 ia σ R1).bind fun z R2 => match putIx f.n0 y z x R2 with
    | some R3 => .ok σ R3
    | none => .no := by rw [evT] <;> rfl
  rw [e1] at p
  refine ⟨N, σ, α, R, hn, hs, S, (Post.bind p).mono ?_⟩
  rintro ov H1 ⟨α1, R1, y, L1, S1, r1, p⟩
  refine ⟨N, σ, α1, R1, Nat.le_trans hn L1.len, hs.later L1, S1, (Post.bind p).mono ?_⟩
  rintro iv H2 ⟨α2, R2, z, La, S2, r2, p⟩
  have r1 := r1.later La
  have rx := (rv.later L1).later La
  have hs2 := (hs.later L1).later La
  cases y with
  | root k =>
    have e := root_at S2 r1
    have p2 : Post (f.k N) (RelT σV [] (f.k N)) f.n0 α2 R2 H2 (match (match R2[k]? with
      | some (.lst xs) => match z with
        | .int i => match ixN xs.length i with
          | some j => setR f.n0 k (.lst (xs.set j x)) [x] R2
          | none => none
        | _ => none
      | some (.dct kvs) => match tKey z with
        | some key => guardO (decide (kvs.length < sizeLine)) (setR f.n0 k (.dct (putK kvs key x)) [x] R2)
        | none => none
      | _ => none) with
      | some R3 => .ok σ R3
      | none => .no) Q (f.Eat σV) := p
    clear p
    cases q : R2[k]? with
    | none => rw [q] at p2; exact False.elim p2
    | some ob =>
      rw [q] at p2
      cases ob with
      | lst xs =>
        cases z with
        | int i =>
          try dsimp only at p2
          cases q1 : ixN xs.length i with
          | none => rw [q1] at p2; exact False.elim p2
          | some j =>
            rw [q1] at p2
            try dsimp only at p2
            cases q3 : setR f.n0 k (.lst (xs.set j x)) [x] R2 with
            | none => rw [q3] at p2; exact False.elim p2
            | some R3 =>
              rw [q3] at p2
              obtain ⟨hm, e3⟩ := guardO_some q3
              cases e3
              cases r2
              obtain ⟨ws, h1, ra⟩ := lst_at S2 q
              refine .inl ⟨α2 k, ws, i, j, e, rfl, h1, ra.length ▸ q1, ?_⟩
              have hh : hbO (.lst (xs.set j x)) ≤ max (hbO (.lst xs)) (hbs [x]) := by rw [hbs_one]; exact hbs_set xs j x
              have L : Later f.n0 α2 R2 H2 α2 (R2.set k (.lst (xs.set j x))) (upd H2 (α2 k) (.lst (ws.set j v))) := Later.set S2 q hh hm
              have S' : SR (f.k N) α2 (R2.set k (.lst (xs.set j x))) (upd H2 (α2 k) (.lst (ws.set j v))) := SR.set (n0 := f.n0) S2 q hh hm ⟨_, upd_same, by
                have := (Reps.set rx j ra).later L
                rw [List.length_set] at this; exact this⟩
              exact p2 _ _ _ L S' ⟨hs2.later L, rfl, fun _ _ => rfl⟩
        | _ => exact False.elim p2
      | dct kvs =>
        try dsimp only at p2
        cases q1 : tKey z with
        | none => rw [q1] at p2; exact False.elim p2
        | some key =>
          rw [q1] at p2
          try dsimp only at p2
          cases q3 : guardO (decide (kvs.length < sizeLine)) (setR f.n0 k (.dct (putK kvs key x)) [x] R2) with
          | none => rw [q3] at p2; exact False.elim p2
          | some R3 =>
            rw [q3] at p2
            obtain ⟨hz, q3⟩ := guardO_some q3
            obtain ⟨hm, e3⟩ := guardO_some q3
            cases e3
            obtain ⟨ws, h1, ra⟩ : ∃ vs, H2 (α2 k) = some (.dK vs) ∧ RepK (f.k N) α2 R2.length H2 kvs vs := S2.obj k _ q
            have ek := tKey_ok r2 q1
            subst ek
            refine .inr ⟨α2 k, _, e, DPut.k h1 (ra.length ▸ of_decide_eq_true hz), ?_⟩
            have hh : hbO (.dct (putK kvs key x)) ≤ max (hbO (.dct kvs)) (hbs [x]) := by rw [hbs_one]; exact hbK_put kvs key x
            have L : Later f.n0 α2 R2 H2 α2 (R2.set k (.dct (putK kvs key x))) (upd H2 (α2 k) (.dK (L2.putK ws key v))) := Later.set S2 q hh hm
            have S' : SR (f.k N) α2 (R2.set k (.dct (putK kvs key x))) (upd H2 (α2 k) (.dK (L2.putK ws key v))) := SR.set (n0 := f.n0) S2 q hh hm ⟨_, upd_same, by
              have := (RepK.put rx (k := key) ra).later L
              rw [List.length_set] at this; exact this⟩
            exact p2 _ _ _ L S' ⟨hs2.later L, rfl, fun _ _ => rfl⟩
      | ins _ _ => exact False.elim p2
  | _ => exact False.elim p
end
end Pv

/-! E13: what loops walk. -/
namespace PySem
open Sem (wp)
/-- enumerate(v), v of any kind that begins an iterator -/
theorem meets_enumerate_newB1 {v : Value} {o : Obj} {H : Heap → Prop} (B : Begins v o H) :
    Meets (Builtin.«enumerate.__new__» ⟨[.type "enumerate", v], []⟩) (fun _ R s => H s.heap ∧
      R (.ok (.ret (.ref (s.heap.push o).objs.size))) { s with heap := (s.heap.push o).push { cls := .type "enumerate", data := .fields #[.none, .bool false, .ref s.heap.objs.size, rawInt 0, .none, .none] } }) :=
  .of_wp fun prog w A R s h => by
    obtain ⟨hp, g, d, tk, os⟩ := s; obtain ⟨h1, h⟩ := h
    have hsub := sub_enumerate
    have q1 : ∀ {A' : Around} {E : Value → Shared → Prop} {Q : Value → Shared → Prop}, Q (.ref hp.objs.size) ⟨hp.push o, g, d, tk, os⟩ → wpAny (model prog w) A' (pyIter v) Q E ⟨hp, g, d, tk, os⟩ :=
      fun q => B.iter prog w _ _ ⟨hp, g, d, tk, os⟩ _ h1 q
    wp_walk using q1
    refine wpAny_stack_any fun st => wpAny_pure ?_
    split
    · rename_i c _ _ _ _ _
      cases (c == Value.type "enumerate")
      · wp_walk using q1
        exact ⟨_, rfl, h⟩
      · wp_walk using q1
        exact ⟨_, rfl, h⟩
    · wp_walk using q1
      exact ⟨_, rfl, h⟩
section
variable {prog : Program} {w : World} {A : Around} {E : Value → Shared → Prop} {s : Shared}
theorem enum_begins1 {v : Value} {o : Obj} {H : Heap → Prop} {Q : Value → Shared → Prop} (B : Begins v o H) (h1 : H s.heap)
    (h : ∀ h', IsEnum h' (s.heap.objs.size + 1) s.heap.objs.size 0 .none → h'.get? s.heap.objs.size = some o → h'.objs.size = s.heap.objs.size + 2 →
      (∀ b o, s.heap.get? b = some o → h'.get? b = some o) → Q (.ref (s.heap.objs.size + 1)) { s with heap := h' }) :
    wpAny (model prog w) A (call (.type "enumerate") [v]) Q E s := by
  refine callType_new F.called_enumerate (by decide) (F.typeCall_enumerate_1 _) (F.newCall_enumerate_1 _) (fun obj => F.args_object_init_2 obj _) F.entry_enumerate_new
    (meets_enumerate_newB1 B) ⟨h1, ?_⟩
  have hz : (s.heap.push o).objs.size = s.heap.objs.size + 1 := Heap.size_push ..
  show _ ∧ _
  rw [hz]
  have he : IsEnum ((s.heap.push o).push { cls := .type "enumerate", data := .fields #[.none, .bool false, .ref s.heap.objs.size, rawInt 0, .none, .none] }) (s.heap.objs.size + 1) s.heap.objs.size 0 .none := by
    have := Heap.get?_push_size (s.heap.push o) (o := { cls := .type "enumerate", data := .fields #[.none, .bool false, .ref s.heap.objs.size, rawInt 0, .none, .none] }) rfl
    rw [hz] at this; exact this
  refine ⟨⟨_, he, rfl⟩, h _ he (Heap.get?_push_of_some _ (Heap.get?_push_size _ B.free)) (by rw [Heap.size_push, hz]) fun b o x => Heap.get?_push_of_some _ (Heap.get?_push_of_some _ x)⟩
end
end PySem
namespace Pv
open PySem PySem.Spec PyProof.Rows L2 RZ
/-- the tuple at a, each item in a new pair -/
def IteT (K : PySem.W.Frag) (a : Addr) : L2.It :=
  ⟨fun i H => ∃ (xs : List V) (x : V), SqT K H a xs ∧ xs[i]? = some x, fun i H v H' => ∃ T x, v = .ref T ∧ H T = none ∧ H' = upd H T (.tup [.int (i : Nat), x]) ∧ ∀ xs, SqT K H a xs → xs[i]? = some x, fun i H => ∃ xs : List V, SqT K H a xs ∧ xs.length ≤ i⟩
theorem turn_enumT {P : Program} {w : World} {K : PySem.W.Frag} {elts : List Expr} {kk : Nat} {tpos : Pos} (a e it : Addr) :
    Turn P w K (.Tuple elts kk tpos) (IteT K a) [e, it] e (fun i h => (∃ old, IsEnum h e it ((i : Nat) : Int) old) ∧ h.IsTupleIter it a i ∧ e ≠ it) where
  mem := by simp
  obj := fun i h st b hb => by
    obtain ⟨⟨old, he⟩, ⟨o, ho, hc, hd⟩, _⟩ := st
    have e' : b = e ∨ b = it := by simpa using hb
    rcases e' with z | z
    · rw [z]; exact ⟨_, he, fun v q => nomatch q⟩
    · rw [z]; exact ⟨o, ho, fun v q => by rw [hd] at q; cases q⟩
  keep := fun i h h' st k => let ⟨⟨old, he⟩, hi, hne⟩ := st; ⟨⟨old, k e (by simp) _ he⟩, hi.at fun o q => k it (by simp) o q, hne⟩
  item := by
    intro X hP hw hK hc i pins s σ H E I hf st hg
    subst hP hw hK
    obtain ⟨⟨old, he⟩, hit, hne⟩ := st
    obtain ⟨xs, x, hq, hx⟩ := hg
    obtain ⟨its, rv, p, hz⟩ := I.tuple hq
    obtain ⟨u, hu, ru⟩ := rv.get hx
    have hel : e < s.heap.objs.size := Heap.lt_size he
    have hil : it < s.heap.objs.size := by obtain ⟨_, q, _⟩ := hit; exact Heap.lt_size q
    have p' : s.heap.IsTuple a its.toArray := p
    have hai : a ≠ it := fun z => by
      obtain ⟨o1, q1, c1, _⟩ := hit
      obtain ⟨o2, q2, c2, _⟩ := p'
      rw [z, q1] at q2; cases q2
      rw [c1] at c2; exact absurd c2 (by decide)
    have hae : a ≠ e := fun z => by
      obtain ⟨o2, q2, c2, _⟩ := p'
      rw [z, he] at q2; cases q2
      exact absurd (show Value.type "enumerate" = Value.type "tuple" from c2) (by decide)
    refine wpAny_pyNext_enum_itemD (Draws.tuple (A := X.A.in1) (show X.A.in1.handled = none from I.ok.hd hc) it a hai its.toArray) he ⟨hit, p'⟩ (by
      have := (List.getElem?_eq_some_iff.mp hu).1
      simpa using this) hne (by simp; exact ⟨hne, Ne.symm hae⟩) fun x' h' tk hP' ho st' hT hsz hk => ?_
    have hit' := st'.1
    have ex : x' = u := by
      have hP' : its.toArray[i]? = some x' := hP'
      rw [List.getElem?_toArray] at hP'
      rw [hu] at hP'; cases hP'; rfl
    subst ex
    refine ⟨_, rfl, wpAny_letOwnedTupleGo_enum (s := { s with heap := h', toks := tk + 1 }) ho fun h'' he' sb => ?_⟩
    have hT2 : h''.get? s.heap.objs.size = some { cls := .type "tuple", data := .seq #[.int i tk, x'] } := (sb.2 _ (Nat.ne_of_gt hel)).trans hT
    have new : ObjOk X.prog X.w (upd H s.heap.objs.size (.tup [.int (i : Nat), x])) h'' s.heap.objs.size (.tup [.int (i : Nat), x]) :=
      ⟨by show 2 ≤ sizeLine; decide, [.int i tk, x'], .cons ⟨_, rfl⟩ (.cons ru .nil), ⟨_, hT2, rfl, _, rfl⟩⟩
    have I1 : Inv X pins σ (upd H s.heap.objs.size (.tup [.int (i : Nat), x])) { s with heap := h'', toks := tk + 1 } :=
      I.turnedNew (ch := [e, it]) (fun b ob hb q => (sb.2 b (fun z => hb (by simp [z]))).trans (hk b ob (fun z => hb (by simp [z])) (fun z => hb (by simp [z])) q)) hf (Nat.le_refl _) new
    refine ⟨.ref s.heap.objs.size, _, I1, rfl, ⟨_, x, rfl, I.hok.fresh (Nat.le_refl _), rfl, fun ys hy => by rw [I.tuple_inj hy hq]; exact hx⟩, ⟨⟨x', ?_⟩, hit'.at fun o q => (sb.2 it (Ne.symm hne)).trans q, hne⟩, fun b hb => ?_⟩
    · have e1 : ((i + 1 : Nat) : Int) = (i : Int) + 1 := by omega
      rw [e1]; exact he'
    · have hb' : b < s.heap.objs.size := by
        have e' : b = e ∨ b = it := by simpa using hb
        rcases e' with z | z
        · rw [z]; exact hel
        · rw [z]; exact hil
      rw [upd_ne (Nat.ne_of_lt hb')]
      exact (hf b hb).1
  done := by
    intro X hP hw hK hc i pins s σ H E I hf st hg
    subst hP hw hK
    obtain ⟨⟨old, he⟩, hit, hne⟩ := st
    obtain ⟨xs, hq, hx⟩ := hg
    obtain ⟨its, rv, p, hz⟩ := I.tuple hq
    obtain ⟨f0, f1, f2, f3, f4, f5⟩ := hf it (by simp)
    have hl := rv.length
    have hT : s.TypeIs (.ref e) "enumerate" := ⟨_, he, rfl⟩
    unfold pyNext
    refine wpAny_bind (wpAny_attempt (wpAny_callSpecial?_slot (name := Str.ofString "__next__") hT F.slot_enumerate_next
      (wpAny_call_entry F.slot_enumerate_next hT F.entry_enumerate_next ?_ (F.args_enumerate_next_1 _))))
    show wpAny _ _ (field (.ref e) 2 >>= _) _ _ _
    refine wpAny_bind (wpAny_field he rfl (x := .ref it) rfl ?_)
    refine wpAny_bind (wpAny_nextOf_tuple_end (A := X.A.in1) (show X.A.in1.handled = none from I.ok.hd hc) hit (show s.heap.IsTuple a its.toArray from p) (by simp; omega) fun h' x he' hx' => ?_)
    obtain ⟨o, ho, hc'⟩ := hx'
    refine wpAny_bind (wpAny_isInstance (T := "StopIteration") (b := true) ⟨o, ho, hc'⟩ isSubtype_stop ?_)
    exact wpAny_pure ⟨rfl, I.turned (t' := s.toks) (fun b o hb q => he' b o hb q) f0 f1 f3 f4 f5⟩
  self := fun A i s Q E st h => let ⟨⟨_, he⟩, _⟩ := st; wpAny_pyIter_enum he h
def iEnumA (K : PySem.W.Frag) (ta : TA) : TI := fun σ H R => ta σ H fun vs H1 => ∃ a xs, vs = [.ref a] ∧ ((SqL K H1 a xs ∧ R (Ite K a) H1) ∨ (SqT K H1 a xs ∧ R (IteT K a) H1))
theorem pi_enumA {X : Cx} {e : Expr} {ta : TA} {p pos tpos : Pos} {elts : List Expr} {kk : Nat} (hg : Gl X "enumerate") (hm : X.mg "enumerate" = none) (ha : PA X [e] ta) (hs : starEach [e] X.env = [(false, eval e X.env)] := by rfl) :
    PI X (.Tuple elts kk tpos) (.Call (.Name "enumerate" p) [e] [] pos) (iEnumA X.K ta) := by
  refine ⟨fun pins s σ H R I h => ?_⟩
  refine Call_ (ld_blt I hg hm boot_enumerate (PyProof.Rows.callWith_type1 (thn (ha.run pos pins s σ H _ I h) fun us s1 ⟨vs, H1, I1, r1, q1⟩ => ?_) hs rfl))
  obtain ⟨a, xs, ex, q⟩ := q1
  subst ex
  cases r1 with
  | cons r rr =>
    cases rr
    cases r
    have fr : ∀ b ∈ [s1.heap.objs.size + 1, s1.heap.objs.size], FpOk X pins H1 b := fun b hb => by
      have e' : b = s1.heap.objs.size + 1 ∨ b = s1.heap.objs.size := by simpa using hb
      have hle : s1.heap.objs.size ≤ b := by
        rcases e' with z | z
        · rw [z]; exact Nat.le_add_right _ _
        · rw [z]; exact Nat.le_refl _
      exact I1.fpOk hle (I1.hok.fresh hle)
    rcases q with ⟨hq, q⟩ | ⟨hq, q⟩
    · obtain ⟨its, rv, p', hz⟩ := I1.list hq
      refine call_enumerate_list p'.isList fun h' he hit hsz hk => wpAny_pyIter_enum he ?_
      have I2 : Inv X pins σ H1 { s1 with heap := h' } := I1.kept (t' := s1.toks) hk
      exact ⟨s1.heap.objs.size + 1, [s1.heap.objs.size + 1, s1.heap.objs.size], _, _, H1, rfl, I2, turn_enum a (s1.heap.objs.size + 1) s1.heap.objs.size, ⟨⟨.none, he⟩, hit, Nat.succ_ne_self _⟩, fr, q⟩
    · obtain ⟨its, rv, p', hz⟩ := I1.tuple hq
      refine enum_begins1 (begins_tuple a its.toArray) (show s1.heap.IsTuple a its.toArray from p') fun h' he hit hsz hk => wpAny_pyIter_enum he ?_
      have I2 : Inv X pins σ H1 { s1 with heap := h' } := I1.kept (t' := s1.toks) hk
      exact ⟨s1.heap.objs.size + 1, [s1.heap.objs.size + 1, s1.heap.objs.size], _, _, H1, rfl, I2, turn_enumT a (s1.heap.objs.size + 1) s1.heap.objs.size, ⟨⟨.none, he⟩, ⟨_, hit, rfl, rfl⟩, Nat.succ_ne_self _⟩, fr, q⟩
/-- a value walked: a list, a tuple, a text -/
def iValA (K : PySem.W.Frag) (tl : TE) : TI := fun σ H R => tl σ H fun x H1 => (∃ a, x = .ref a ∧ (∃ xs, SqL K H1 a xs) ∧ R (Itl K a) H1) ∨ (∃ a, x = .ref a ∧ (∃ xs, SqT K H1 a xs) ∧ R (Itt K a) H1) ∨ ∃ y, x = .str y ∧ R (Its y) H1
theorem pi_valA {X : Cx} {tg l : Expr} {tl : TE} (hl : PE X l tl) : PI X tg l (iValA X.K tl) := by
  refine ⟨fun pins s σ H R I h => ?_⟩
  refine thn (hl.run pins s σ H _ I h) fun v s1 ⟨x, H1, I1, r1, q1⟩ => ?_
  have fr : ∀ b ∈ [s1.heap.objs.size], FpOk X pins H1 b := fun b hb => by
    have e : b = s1.heap.objs.size := by simpa using hb
    subst e
    exact I1.fpOk (Nat.le_refl _) (I1.hok.fresh (Nat.le_refl _))
  rcases q1 with ⟨a, e, ⟨xs, hq⟩, q⟩ | ⟨a, e, ⟨xs, hq⟩, q⟩ | ⟨y, ex, q⟩
  · subst e
    cases r1
    obtain ⟨its, rv, p, hz⟩ := I1.list hq
    refine wpAny_pyIter_list p.isList ?_
    exact ⟨s1.heap.objs.size, [s1.heap.objs.size], _, _, H1, rfl, I1.kept (t' := s1.toks) fun b o e => Heap.get?_push_of_some _ e, turn_list a _, ⟨_, Heap.get?_push_size _ rfl, rfl, rfl⟩, fr, q⟩
  · subst e
    cases r1
    obtain ⟨its, rv, p, hz⟩ := I1.tuple hq
    refine wpAny_pyIter_tuple (show s1.heap.IsTuple a its.toArray from p) ?_
    exact ⟨s1.heap.objs.size, [s1.heap.objs.size], _, _, H1, rfl, I1.kept (t' := s1.toks) fun b o e => Heap.get?_push_of_some _ e, turn_tuple a _, ⟨_, Heap.get?_push_size _ rfl, rfl, rfl⟩, fr, q⟩
  · subst ex
    obtain ⟨t, rfl⟩ := r1
    cases ha : y.cps.all (· < 128)
    · exact wpAny_pyIter_wide ha (pi_one (tk := s1.toks) I1 _ (turn_str _ y t "str_iterator" (.inr rfl)) ⟨_, Heap.get?_push_size _ rfl, rfl, rfl⟩ q)
    · exact wpAny_pyIter_ascii ha (pi_one (tk := s1.toks) I1 _ (turn_str _ y t "str_ascii_iterator" (.inl rfl)) ⟨_, Heap.get?_push_size _ rfl, rfl, rfl⟩ q)
theorem PIx.imp {X : Cx} {tg e : Expr} {t t' : TI} (h : PI X tg e t) (i : ∀ σ H R, t' σ H R → t σ H R) : PI X tg e t' := ⟨fun pins s σ H R I q => h.run pins s σ H R I (i σ H R q)⟩
/-- what is walked, and how it is walked -/
inductive RepW (c : Kc) (α : Nat → Addr) (n : Nat) (H : Hp) : Wk → L2.It → Prop
  | lst {v : TV} {a : Addr} : Rep c α n H v (.ref a) → RepW c α n H (.lst v) (Itl c.K a)
  | tup {xs : List TV} {a : Addr} : Rep c α n H (.tup xs) (.ref a) → RepW c α n H (.tup xs) (Itt c.K a)
  | str (s : Str) : RepW c α n H (.str s.cps.toList) (Its s)
  | rng (lo : Int) (m : Nat) : RepW c α n H (.rng lo m) (Itr lo m)
  | enum {v : TV} {a : Addr} : Rep c α n H v (.ref a) → RepW c α n H (.enum v) (Ite c.K a)
  | enumT {xs : List TV} {a : Addr} : Rep c α n H (.tup xs) (.ref a) → RepW c α n H (.enumT xs) (IteT c.K a)
  | zip {v u : TV} {a b : Addr} : Rep c α n H v (.ref a) → Rep c α n H u (.ref b) → RepW c α n H (.zip v u) (Itz c.K a b)
  | zipT {xs ys : List TV} {a b : Addr} : Rep c α n H (.tup xs) (.ref a) → Rep c α n H (.tup ys) (.ref b) → RepW c α n H (.zipT xs ys) (ItzT c.K a b)
section
variable {c : Kc} {n0 : Nat} {α α' : Nat → Addr} {R R' : Rs} {H H' : Hp} {w : Wk} {J : L2.It}
theorem RepW.later (L : Later n0 α R H α' R' H') (r : RepW c α R.length H w J) : RepW c α' R'.length H' w J := by
  cases r with
  | lst r => exact .lst (r.later L)
  | tup r => exact .tup (r.later L)
  | str s => exact .str s
  | rng lo m => exact .rng lo m
  | enum r => exact .enum (r.later L)
  | enumT r => exact .enumT (r.later L)
  | zip r q => exact .zip (r.later L) (q.later L)
  | zipT r q => exact .zipT (r.later L) (q.later L)
theorem RepW.ghost {N : Addr → Prop} {n : Nat} {p : Addr} {ob : HO} (hp : H p = none) (r : RepW (c.w N) α n H w J) : RepW (c.w (addG N p)) α n (upd H p ob) w J := by
  cases r with
  | lst r => exact .lst (c := c.w (addG N p)) (r.ghost hp)
  | tup r => exact .tup (c := c.w (addG N p)) (r.ghost hp)
  | str s => exact .str s
  | rng lo m => exact .rng lo m
  | enum r => exact .enum (c := c.w (addG N p)) (r.ghost hp)
  | enumT r => exact .enumT (c := c.w (addG N p)) (r.ghost hp)
  | zip r q => exact .zip (c := c.w (addG N p)) (r.ghost hp) (q.ghost hp)
  | zipT r q => exact .zipT (c := c.w (addG N p)) (r.ghost hp) (q.ghost hp)
theorem Reps.none {n : Nat} {xs : List TV} {vs : List V} {i : Nat} (r : Reps c α n H xs vs) (h : xs[i]? = none) : vs.length ≤ i := by
  rw [← r.length]
  exact List.getElem?_eq_none_iff.mp h
theorem map_at {xs : List TV} {i : Nat} {t : TV} {f : TV → TV} (h : some (xs[i]?.map f) = some (some t)) : ∃ x, xs[i]? = some x ∧ f x = t := by
  cases q : xs[i]? with
  | none => rw [q] at h; cases h
  | some x => rw [q] at h; cases h; exact ⟨x, rfl, rfl⟩
theorem map_end {xs : List TV} {i : Nat} {f : TV → TV} (h : some (xs[i]?.map f) = some none) : xs[i]? = none := by
  cases q : xs[i]? with
  | none => rfl
  | some x => rw [q] at h; cases h
theorem pair_end {xs ys : List TV} {i : Nat} (h : (some (match xs[i]?, ys[i]? with
      | some x, some y => some (TV.tup [x, y])
      | _, _ => none) : Option (Option TV)) = some none) : xs[i]? = none ∨ ys[i]? = none := by
  cases q : xs[i]? with
  | none => exact .inl rfl
  | some x =>
    cases q2 : ys[i]? with
    | none => exact .inr rfl
    | some y => rw [q, q2] at h; cases h
theorem pair_at {xs ys : List TV} {i : Nat} {t : TV} (h : (some (match xs[i]?, ys[i]? with
      | some x, some y => some (TV.tup [x, y])
      | _, _ => none) : Option (Option TV)) = some (some t)) : ∃ x y, xs[i]? = some x ∧ ys[i]? = some y ∧ t = .tup [x, y] := by
  cases q : xs[i]? with
  | none => rw [q] at h; cases h
  | some x =>
    cases q2 : ys[i]? with
    | none => rw [q, q2] at h; cases h
    | some y => rw [q, q2] at h; cases h; exact ⟨x, y, rfl, rfl, rfl⟩
theorem serve (S : SR c α R H) (r : RepW c α R.length H w J) {i : Nat} :
    (w.at i R = some none → J.stop i H) ∧ ∀ t, w.at i R = some (some t) → J.go i H ∧ ∀ x H', J.yld i H x H' → Later n0 α R H α R H' ∧ SR c α R H' ∧ Rep c α R.length H' t x := by
  have newP : ∀ {T : Addr} {x y : V} {tx ty : TV}, H T = none → Rep c α R.length H tx x → Rep c α R.length H ty y → Later n0 α R H α R (upd H T (.tup [x, y])) ∧ SR c α R (upd H T (.tup [x, y])) ∧ Rep c α R.length (upd H T (.tup [x, y])) (.tup [tx, ty]) (.ref T) := fun {T x y tx ty} hT rx ry => by
    have L : Later n0 α R H α R (upd H T (.tup [x, y])) := Later.fresh S hT
    exact ⟨L, S.fresh hT, .tup upd_same (S.nMM hT) (.cons (rx.later L) (.cons (ry.later L) .nil))⟩
  cases r with
  | @lst v a r =>
    have e : ∀ o, Wk.at (.lst v) i R = some o → ∃ xs vs, SqL c.K H a vs ∧ Reps c α R.length H xs vs ∧ xs[i]? = o := fun o h => by
      have h : (asL R v).map (·[i]?) = some o := h
      cases q : asL R v with
      | none => rw [q] at h; cases h
      | some xs =>
        rw [q] at h; cases h
        obtain ⟨a', vs, e, ha, ra⟩ := asL_ok S r q
        cases e
        exact ⟨xs, vs, ha, ra, rfl⟩
    refine ⟨fun h => ?_, fun t h => ?_⟩
    · obtain ⟨xs, vs, ha, ra, q⟩ := e _ h
      exact ⟨vs, ha, ra.none q⟩
    · obtain ⟨xs, vs, ha, ra, q⟩ := e _ h
      obtain ⟨u, h1, h2⟩ := ra.get q
      refine ⟨⟨vs, u, ha, h1⟩, fun x H' y => ?_⟩
      obtain ⟨rfl, y⟩ := y
      have := y vs ha
      rw [h1] at this; cases this
      exact ⟨.refl, S, h2⟩
  | @tup xs a r =>
    obtain ⟨a', vs, e, ha, ra⟩ := tup_inv r
    cases e
    refine ⟨fun h => ?_, fun t h => ?_⟩
    · have h : some xs[i]? = some none := h
      exact ⟨vs, ha, ra.none (Option.some.inj h)⟩
    · have h : some xs[i]? = some (some t) := h
      obtain ⟨u, h1, h2⟩ := ra.get (Option.some.inj h)
      refine ⟨⟨vs, u, ha, h1⟩, fun x H' y => ?_⟩
      obtain ⟨rfl, y⟩ := y
      have := y vs ha
      rw [h1] at this; cases this
      exact ⟨.refl, S, h2⟩
  | str s =>
    refine ⟨fun h => ?_, fun t h => ?_⟩
    · have h : some (s.cps.toList[i]?.map fun c => TV.str ⟨#[c]⟩) = some none := h
      cases q : s.cps.toList[i]? with
      | none =>
        have := List.getElem?_eq_none_iff.mp q
        show s.cps.size ≤ i
        rw [← Array.length_toList]; exact this
      | some k => rw [q] at h; cases h
    · have h : some (s.cps.toList[i]?.map fun c => TV.str ⟨#[c]⟩) = some (some t) := h
      cases q : s.cps.toList[i]? with
      | none => rw [q] at h; cases h
      | some k =>
        rw [q] at h; cases h
        have hi := (List.getElem?_eq_some_iff.mp q).1
        refine ⟨by show i < s.cps.size; rw [← Array.length_toList]; exact hi, fun x H' y => ?_⟩
        obtain ⟨rfl, c', y, rfl⟩ := y
        rw [Array.getElem?_toList] at q
        rw [q] at y; cases y
        exact ⟨.refl, S, .str _⟩
  | rng lo m =>
    refine ⟨fun h => ?_, fun t h => ?_⟩
    · have h : some (if i < m then some (TV.int (lo + i)) else none) = some none := h
      by_cases hi : i < m
      · rw [if_pos hi] at h; cases h
      · exact Nat.le_of_not_lt hi
    · have h : some (if i < m then some (TV.int (lo + i)) else none) = some (some t) := h
      by_cases hi : i < m
      · rw [if_pos hi] at h; cases h
        refine ⟨hi, fun x H' y => ?_⟩
        obtain ⟨rfl, rfl⟩ := y
        exact ⟨.refl, S, .int _⟩
      · rw [if_neg hi] at h; cases h
  | @enum v a r =>
    have e : ∀ o, Wk.at (.enum v) i R = some o → ∃ xs vs, SqL c.K H a vs ∧ Reps c α R.length H xs vs ∧ some (xs[i]?.map fun x => TV.tup [.int i, x]) = some o := fun o h => by
      have h : (asL R v).map (fun xs => xs[i]?.map fun x => TV.tup [.int i, x]) = some o := h
      cases q : asL R v with
      | none => rw [q] at h; cases h
      | some xs =>
        rw [q] at h
        obtain ⟨a', vs, e, ha, ra⟩ := asL_ok S r q
        cases e
        exact ⟨xs, vs, ha, ra, h⟩
    refine ⟨fun h => ?_, fun t h => ?_⟩
    · obtain ⟨xs, vs, ha, ra, q⟩ := e _ h
      exact ⟨vs, ha, ra.none (map_end q)⟩
    · obtain ⟨xs, vs, ha, ra, q⟩ := e _ h
      obtain ⟨z, q3, rfl⟩ := map_at q
      obtain ⟨u, h1, h2⟩ := ra.get q3
      refine ⟨⟨vs, u, ha, h1⟩, fun x H' y => ?_⟩
      obtain ⟨T, u', rfl, hT, rfl, y⟩ := y
      have := y vs ha
      rw [h1] at this; cases this
      exact newP hT (.int _) h2
  | @enumT xs a r =>
    obtain ⟨a', vs, e, ha, ra⟩ := tup_inv r
    cases e
    refine ⟨fun h => ⟨vs, ha, ra.none (map_end h)⟩, fun t h => ?_⟩
    obtain ⟨z, q, rfl⟩ := map_at (f := fun x => TV.tup [.int i, x]) h
    obtain ⟨u, h1, h2⟩ := ra.get q
    refine ⟨⟨vs, u, ha, h1⟩, fun x H' y => ?_⟩
    obtain ⟨T, u', rfl, hT, rfl, y⟩ := y
    have := y vs ha
    rw [h1] at this; cases this
    exact newP hT (.int _) h2
  | @zip v u a b r r2 =>
    have e : ∀ o, Wk.at (.zip v u) i R = some o → ∃ xs ys vs us, SqL c.K H a vs ∧ Reps c α R.length H xs vs ∧ SqL c.K H b us ∧ Reps c α R.length H ys us ∧ some (match xs[i]?, ys[i]? with
        | some x, some y => some (TV.tup [x, y])
        | _, _ => none) = some o := fun o h => by
      have h : (match asL R v, asL R u with
        | some xs, some ys => some (match xs[i]?, ys[i]? with
          | some x, some y => some (TV.tup [x, y])
          | _, _ => none)
        | _, _ => none) = some o := h
      cases q : asL R v with
      | none => rw [q] at h; cases h
      | some xs =>
        cases q2 : asL R u with
        | none => rw [q, q2] at h; cases h
        | some ys =>
          rw [q, q2] at h
          obtain ⟨a', vs, e, ha, ra⟩ := asL_ok S r q
          cases e
          obtain ⟨b', us, e, hb, rb⟩ := asL_ok S r2 q2
          cases e
          exact ⟨xs, ys, vs, us, ha, ra, hb, rb, h⟩
    refine ⟨fun h => ?_, fun t h => ?_⟩
    · obtain ⟨xs, ys, vs, us, ha, ra, hb, rb, q⟩ := e _ h
      exact ⟨vs, us, ha, hb, (pair_end q).imp ra.none rb.none⟩
    · obtain ⟨xs, ys, vs, us, ha, ra, hb, rb, q⟩ := e _ h
      obtain ⟨tx, ty, q1, q2, rfl⟩ := pair_at q
      obtain ⟨x, h1, h2⟩ := ra.get q1
      obtain ⟨y, h3, h4⟩ := rb.get q2
      refine ⟨⟨vs, us, x, y, ha, hb, h1, h3⟩, fun z H' yl => ?_⟩
      obtain ⟨T, x', y', rfl, hT, rfl, y1, y2⟩ := yl
      have e1 := y1 vs ha
      have e2 := y2 us hb
      rw [h1] at e1; cases e1
      rw [h3] at e2; cases e2
      exact newP hT h2 h4
  | @zipT xs ys a b r r2 =>
    obtain ⟨a', vs, e, ha, ra⟩ := tup_inv r
    cases e
    obtain ⟨b', us, e, hb, rb⟩ := tup_inv r2
    cases e
    refine ⟨fun h => ⟨vs, us, ha, hb, (pair_end h).imp ra.none rb.none⟩, fun t h => ?_⟩
    obtain ⟨tx, ty, q1, q2, rfl⟩ := pair_at h
    obtain ⟨x, h1, h2⟩ := ra.get q1
    obtain ⟨y, h3, h4⟩ := rb.get q2
    refine ⟨⟨vs, us, x, y, ha, hb, h1, h3⟩, fun z H' yl => ?_⟩
    obtain ⟨T, x', y', rfl, hT, rfl, y1, y2⟩ := yl
    have e1 := y1 vs ha
    have e2 := y2 us hb
    rw [h1] at e1; cases e1
    rw [h3] at e2; cases e2
    exact newP hT h2 h4
end
/-- what is walked, made -/
def tI (f : Cf) (it : It) : TI := fun σV H Q => At f (fun c α n H w J => RepW c α n H w J) (evI f.G f.n0 it) σV H Q
section
variable {f : Cf} {X : Cx} {a b d e o tg : Expr} {es : List Expr} {ia ib id ie io : Ex} {ies : Exs} {pos apos cpos : Pos} {σV : L2.St} {H : Hp}
theorem q_ival (xo : Xo f.c X) (ha : PE X a (tE f ia)) : PI X tg a (tI f (.val ia)) := PIx.imp (pi_valA ha) fun σV H Q h => by
  obtain ⟨N, σ, α, R, hn, hs, S, p⟩ := h
  have e1 : evI f.G f.n0 (.val ia) σ R = (evE f.G f.n0 ia σ R).bind fun x R1 => match x with
    | .tup xs => .ok (.tup xs) R1
    | .str s => .ok (.str s.cps.toList) R1
    | x => match asL R1 x with
      | some _ => .ok (.lst x) R1
      | none => .no := by rw [evI] <;> rfl
  rw [e1] at p
  refine ⟨N, σ, α, R, hn, hs, S, (Post.bind (rel := Rep (f.k N)) p).mono ?_⟩
  rintro x H1 ⟨α1, R1, tx, L1, S1, r1, p⟩
  have gen : Post (f.k N) (fun α n H w J => RepW (f.k N) α n H w J) f.n0 α1 R1 H1 (match asL R1 tx with
      | some _ => .ok (.lst tx) R1
      | none => .no) Q (f.Eat σV) → ∃ a, x = .ref a ∧ (∃ xs, SqL X.K H1 a xs) ∧ Q (Itl X.K a) H1 := fun p => by
    cases q : asL R1 tx with
    | none => rw [q] at p; exact False.elim p
    | some xs =>
      rw [q] at p
      obtain ⟨a, vs, rfl, ha, ra⟩ := asL_ok S1 r1 q
      have hq := p.ok S1 (.lst r1)
      exact ⟨a, rfl, ⟨vs, xo.K ▸ ha⟩, by have e := xo.K; rw [e]; exact hq⟩
  cases tx with
  | str s => cases r1; exact .inr (.inr ⟨s, rfl, p.ok S1 (.str s)⟩)
  | tup xs =>
    obtain ⟨a, vs, rfl, ha, ra⟩ := tup_inv r1
    have hq := p.ok S1 (.tup r1)
    exact .inr (.inl ⟨a, rfl, ⟨vs, xo.K ▸ ha⟩, by have e := xo.K; rw [e]; exact hq⟩)
  | _ => exact .inl (gen p)
theorem q_irng1 {p : Pos} (hg : Gl X "range") (hm : X.mg "range" = none) (ha : PA X [a] (tA f (.cons ia .nil))) (hs : starEach [a] X.env = [(false, eval a X.env)]) : PI X tg (.Call (.Name "range" p) [a] [] pos) (tI f (.rng1 ia)) :=
  PIx.imp (pi_range1 hg hm ha hs) fun σV H Q h => by
    obtain ⟨N, σ, α, R, hn, hs, S, p⟩ := h
    have e1 : evI f.G f.n0 (.rng1 ia) σ R = (evs f.G f.n0 (.cons ia .nil) σ R).bind fun vs R1 => match vs with
      | [.int n] => guardR (decide (-(2 ^ 62) ≤ n ∧ n < 2 ^ 62)) (.ok (.rng 0 n.toNat) R1)
      | _ => .no := by
      rw [evI, evs]
      cases evE f.G f.n0 ia σ R with
      | ok x R1 => simp only [Rz.bind_ok]; rw [evs]; cases x <;> rfl
      | exc _ _ _ => rfl
      | no => rfl
    rw [e1] at p
    refine ⟨N, σ, α, R, hn, hs, S, (Post.bind (rel := Reps (f.k N)) p).mono ?_⟩
    rintro vs H1 ⟨α1, R1, ts, L1, S1, r1, p⟩
    cases r1 with
    | nil => exact False.elim p
    | @cons x xs v vs r rs =>
      cases rs with
      | nil =>
        cases x with
        | int n =>
          cases r
          obtain ⟨hz, p⟩ := Post.guard p
          have hz := of_decide_eq_true hz
          exact ⟨n, rfl, hz.1, hz.2, p.ok S1 (.rng 0 n.toNat)⟩
        | _ => exact False.elim p
      | cons _ _ => cases x <;> exact False.elim p
theorem q_irng2 {p : Pos} (hg : Gl X "range") (hm : X.mg "range" = none) (ha : PA X [a, b] (tA f (.cons ia (.cons ib .nil)))) (hs : starEach [a, b] X.env = [(false, eval a X.env), (false, eval b X.env)]) (hs2 : starEach [b] X.env = [(false, eval b X.env)]) :
    PI X tg (.Call (.Name "range" p) [a, b] [] pos) (tI f (.rng2 ia ib)) :=
  PIx.imp (pi_range2 hg hm ha hs hs2) fun σV H Q h => by
    obtain ⟨N, σ, α, R, hn, hs, S, p⟩ := h
    have e1 : evI f.G f.n0 (.rng2 ia ib) σ R = (evs f.G f.n0 (.cons ia (.cons ib .nil)) σ R).bind fun vs R1 => match vs with
      | [.int i, .int j] => guardR (decide (-(2 ^ 62) ≤ i ∧ i < 2 ^ 62 ∧ -(2 ^ 62) ≤ j ∧ j < 2 ^ 62)) (.ok (.rng i (j - i).toNat) R1)
      | _ => .no := by
      rw [evI, evs]
      cases evE f.G f.n0 ia σ R with
      | ok x R1 =>
        simp only [Rz.bind_ok]
        rw [evs]
        cases evE f.G f.n0 ib σ R1 with
        | ok y R2 => simp only [Rz.bind_ok]; rw [evs]; cases x <;> first | rfl | (cases y <;> rfl)
        | exc _ _ _ => rfl
        | no => rfl
      | exc _ _ _ => rfl
      | no => rfl
    rw [e1] at p
    refine ⟨N, σ, α, R, hn, hs, S, (Post.bind (rel := Reps (f.k N)) p).mono ?_⟩
    rintro vs H1 ⟨α1, R1, ts, L1, S1, r1, p⟩
    cases r1 with
    | nil => exact False.elim p
    | @cons x xs v vs r rs =>
      cases rs with
      | nil => cases x <;> exact False.elim p
      | @cons y ys v2 vs r2 rs =>
        cases rs with
        | nil =>
          cases x with
          | int n =>
            cases y with
            | int m =>
              cases r
              cases r2
              obtain ⟨hz, p⟩ := Post.guard p
              exact ⟨n, m, rfl, of_decide_eq_true hz, p.ok S1 (.rng n (m - n).toNat)⟩
            | _ => exact False.elim p
          | _ => exact False.elim p
        | cons _ _ => cases x <;> first | exact False.elim p | (cases y <;> exact False.elim p)
theorem q_ienum (xo : Xo f.c X) {p tpos : Pos} {elts : List Expr} {kk : Nat} (hg : Gl X "enumerate") (hm : X.mg "enumerate" = none) (ha : PA X [a] (tA f (.cons ia .nil))) (hs : starEach [a] X.env = [(false, eval a X.env)]) :
    PI X (.Tuple elts kk tpos) (.Call (.Name "enumerate" p) [a] [] pos) (tI f (.enum ia)) := PIx.imp (pi_enumA hg hm ha hs) fun σV H Q h => by
  obtain ⟨N, σ, α, R, hn, hs, S, p⟩ := h
  have e1 : evI f.G f.n0 (.enum ia) σ R = (evs f.G f.n0 (.cons ia .nil) σ R).bind fun vs R1 => match vs with
    | [x] => match asT x with
      | some xs => .ok (.enumT xs) R1
      | none => match asL R1 x with
        | some _ => .ok (.enum x) R1
        | none => .no
    | _ => .no := by
    rw [evI, evs]
    cases evE f.G f.n0 ia σ R with
    | ok x R1 => simp only [Rz.bind_ok]; rw [evs] <;> rfl
    | exc _ _ _ => rfl
    | no => rfl
  rw [e1] at p
  refine ⟨N, σ, α, R, hn, hs, S, (Post.bind (rel := Reps (f.k N)) p).mono ?_⟩
  rintro vs H1 ⟨α1, R1, ts, L1, S1, r1, p⟩
  have eK := xo.K
  cases r1 with
  | nil => exact False.elim p
  | @cons x xs v vs r rs =>
    cases rs with
    | cons _ _ => exact False.elim p
    | nil =>
      try dsimp only at p
      cases q : asT x with
      | some ys =>
        rw [q] at p
        obtain ⟨a, ws, rfl, ha, ra⟩ := asT_ok r q
        have ex : x = .tup ys := by cases x <;> first | (cases q; rfl) | cases q
        subst ex
        have hq := p.ok S1 (.enumT r)
        exact ⟨a, ws, rfl, .inr ⟨eK ▸ ha, by rw [eK]; exact hq⟩⟩
      | none =>
        rw [q] at p
        try dsimp only at p
        cases q2 : asL R1 x with
        | none => rw [q2] at p; exact False.elim p
        | some ys =>
          rw [q2] at p
          obtain ⟨a, ws, rfl, ha, ra⟩ := asL_ok S1 r q2
          have hq := p.ok S1 (.enum r)
          exact ⟨a, ws, rfl, .inl ⟨eK ▸ ha, by rw [eK]; exact hq⟩⟩
theorem q_izip (xo : Xo f.c X) {p tpos : Pos} {elts : List Expr} {kk : Nat} (hg : Gl X "zip") (hm : X.mg "zip" = none) (ha : PA X [a, b] (tA f (.cons ia (.cons ib .nil)))) (hs : starEach [a, b] X.env = (false, eval a X.env) :: starEach [b] X.env) (hpl : (backTo pos (starEach [b] X.env)).any (·.1) = false) :
    PI X (.Tuple elts kk tpos) (.Call (.Name "zip" p) [a, b] [] pos) (tI f (.zip ia ib)) := PIx.imp (pi_zipA hg hm ha hs hpl) fun σV H Q h => by
  obtain ⟨N, σ, α, R, hn, hs, S, p⟩ := h
  have e1 : evI f.G f.n0 (.zip ia ib) σ R = (evs f.G f.n0 (.cons ia (.cons ib .nil)) σ R).bind fun vs R1 => match vs with
    | [x, y] => match asT x, asT y with
      | some xs, some ys => .ok (.zipT xs ys) R1
      | _, _ => match asL R1 x, asL R1 y with
        | some _, some _ => .ok (.zip x y) R1
        | _, _ => .no
    | _ => .no := by
    rw [evI, evs]
    cases evE f.G f.n0 ia σ R with
    | ok x R1 =>
      simp only [Rz.bind_ok]
      rw [evs]
      cases evE f.G f.n0 ib σ R1 with
      | ok y R2 => simp only [Rz.bind_ok]; rw [evs] <;> rfl
      | exc _ _ _ => rfl
      | no => rfl
    | exc _ _ _ => rfl
    | no => rfl
  rw [e1] at p
  refine ⟨N, σ, α, R, hn, hs, S, (Post.bind (rel := Reps (f.k N)) p).mono ?_⟩
  rintro vs H1 ⟨α1, R1, ts, L1, S1, r1, p⟩
  have eK := xo.K
  cases r1 with
  | nil => exact False.elim p
  | @cons x xs v vs r rs =>
    cases rs with
    | nil => exact False.elim p
    | @cons y ys v2 vs r2 rs =>
      cases rs with
      | cons _ _ => exact False.elim p
      | nil =>
        have lst : Post (f.k N) (fun α n H w J => RepW (f.k N) α n H w J) f.n0 α1 R1 H1 (match asL R1 x, asL R1 y with
            | some _, some _ => .ok (.zip x y) R1
            | _, _ => .no) Q (f.Eat σV) → ∃ a b xs ys, [v, v2] = [V.ref a, .ref b] ∧ ((SqL X.K H1 a xs ∧ SqL X.K H1 b ys ∧ Q (Itz X.K a b) H1) ∨ (SqT X.K H1 a xs ∧ SqT X.K H1 b ys ∧ Q (ItzT X.K a b) H1)) := fun p => by
          cases q : asL R1 x with
          | none => rw [q] at p; exact False.elim p
          | some xs =>
            cases q2 : asL R1 y with
            | none => rw [q, q2] at p; exact False.elim p
            | some ys =>
              rw [q, q2] at p
              obtain ⟨a, ws, rfl, ha, ra⟩ := asL_ok S1 r q
              obtain ⟨b, us, rfl, hb, rb⟩ := asL_ok S1 r2 q2
              have hq := p.ok S1 (.zip r r2)
              exact ⟨a, b, ws, us, rfl, .inl ⟨eK ▸ ha, eK ▸ hb, by rw [eK]; exact hq⟩⟩
        try dsimp only at p
        cases q : asT x with
        | none => rw [q] at p; exact lst p
        | some xs =>
          cases q2 : asT y with
          | none => rw [q, q2] at p; exact lst p
          | some ys =>
            rw [q, q2] at p
            obtain ⟨a, ws, rfl, ha, ra⟩ := asT_ok r q
            obtain ⟨b, us, rfl, hb, rb⟩ := asT_ok r2 q2
            have ex : x = .tup xs := by cases x <;> first | (cases q; rfl) | cases q
            have ey : y = .tup ys := by cases y <;> first | (cases q2; rfl) | cases q2
            subst ex
            subst ey
            have hq := p.ok S1 (.zipT r r2)
            exact ⟨a, b, ws, us, rfl, .inr ⟨eK ▸ ha, eK ▸ hb, by rw [eK]; exact hq⟩⟩
end
end Pv

/-! E14: loops and comprehensions. -/
namespace Pv
open PySem PySem.Spec PyProof.Rows L2
theorem Rz.bind_assoc {α β γ : Type} (x : Rz α) (f : α → Rs → Rz β) (g : β → Rs → Rz γ) : (x.bind f).bind g = x.bind fun a R => (f a R).bind g := by cases x <;> rfl
/-- how a statement ended -/
inductive FlV where
  | nx (σ : L2.St) | rt (v : V) | bk (σ : L2.St) | ct (σ : L2.St)
def endsP (D : Ends) : FlV → Hp → Prop
  | .nx σ, H => D.nx σ H
  | .rt v, H => D.rt v H
  | .bk σ, H => D.bk σ H
  | .ct σ, H => D.ct σ H
inductive RelF (c : Kc) (α : Nat → Addr) (n : Nat) (H : Hp) : Fl × Slots → FlV → Prop
  | nx {σ : Slots} {σV : L2.St} : StR c α n H σ σV → RelF c α n H (.nx, σ) (.nx σV)
  | rt {σ : Slots} {t : TV} {v : V} : Rep c α n H t v → RelF c α n H (.rt t, σ) (.rt v)
  | bk {σ : Slots} {σV : L2.St} : StR c α n H σ σV → RelF c α n H (.bk, σ) (.bk σV)
  | ct {σ : Slots} {σV : L2.St} : StR c α n H σ σV → RelF c α n H (.ct, σ) (.ct σV)
/-- a statement's reading by a result -/
def AtS (f : Cf) (r : Slots → Rs → Rz (Fl × Slots)) : TS := fun D σV H => ∃ N σ α R, f.n0 ≤ R.length ∧ StR (f.k N) α R.length H σ σV ∧ SR (f.k N) α R H ∧ Post (f.k N) (RelF (f.k N)) f.n0 α R H (r σ R) (endsP D) (f.Eat σV)
def tS (f : Cf) (s : Sm) : TS := AtS f (evS f.G f.n0 s)
def tSs (f : Cf) (ss : Sms) : TS := AtS f (evSs f.G f.n0 ss)
theorem PSx.imp {X : Cx} {s : Stmt} {t t' : TS} (h : PS X s t) (i : ∀ D σ H, t' D σ H → t D σ H) : PS X s t' := ⟨fun pins s σ H D I q => h.run pins s σ H D I (i D σ H q)⟩
theorem PSsx.imp {X : Cx} {s : List Stmt} {t t' : TS} (h : PSs X s t) (i : ∀ D σ H, t' D σ H → t D σ H) : PSs X s t' := ⟨fun pins s σ H D I q => h.run pins s σ H D I (i D σ H q)⟩
section
variable {f : Cf} {X : Cx} {a b d e o tg : Expr} {es : List Expr} {ia ib id ie io : Ex} {ies : Exs} {pos apos cpos : Pos} {σV : L2.St} {H : Hp} {iter : Expr} {it : It} {body : List Stmt} {ib2 : Sms} {t : Tg}
/-- what a for's turn does -/
def forTurn (G : Ga) (n0 : Nat) (t : Tg) (b : Sms) (w : Wk) : Nat → Slots → Rs → Rz (Option (Fl × Slots)) := fun i σ R => match w.at i R with
  | none => .no
  | some none => .ok none R
  | some (some v) => (evT G n0 t v σ R).bind fun σ1 R1 => (evSs G n0 b σ1 R1).bind fun r R2 => .ok (some r) R2
theorem evS_for {G : Ga} {n0 : Nat} {σ : Slots} {R : Rs} : evS G n0 (.for t it ib2) σ R = (evI G n0 it σ R).bind fun w R1 => loopN (forTurn G n0 t ib2 w) W0 0 σ R1 := by rw [evS] <;> rfl
theorem q_for (fl : Flat f) (hp : PassesOwn (model X.prog X.w) X.A X.env X.xe) (hc : X.calm = true) (hi : PI X tg iter (tI f it)) (hg : PG X tg (tG f t)) (hb : PSs X body (tSs f ib2))
    (hs : ∀ x, foldedSetIterable iter X.env x = pure x) : PS X (.For tg iter body [] pos) (tS f (.for t it ib2)) := PSx.imp (ps_for hp hc hi hg hb hs) fun D σV H h => by
  obtain ⟨N, σ, α, R, hn, hs, S, p⟩ := h
  rw [evS_for] at p
  refine ⟨N, σ, α, R, hn, hs, S, (Post.bind (rel := fun α n H w J => RepW (f.k N) α n H w J) p).mono ?_⟩
  rintro J H1 ⟨α1, R1, w, L1, S1, rw1, p⟩
  refine ⟨fun i m σV' H' => ∃ σ α R, f.n0 ≤ R.length ∧ StR (f.k N) α R.length H' σ σV' ∧ SR (f.k N) α R H' ∧ RepW (f.k N) α R.length H' w J ∧ Post (f.k N) (RelF (f.k N)) f.n0 α R H' (loopN (forTurn f.G f.n0 t ib2 w) m i σ R) (endsP D) (f.Eat σV'),
    ⟨W0, σ, α1, R1, Nat.le_trans hn L1.len, hs.later L1, S1, rw1, p⟩, ?_⟩
  rintro i m σV2 H2 ⟨σ2, α2, R2, hn2, hs2, S2, rw2, p⟩
  cases m with
  | zero => exact False.elim p
  | succ m =>
    have e1 : loopN (forTurn f.G f.n0 t ib2 w) (m + 1) i σ2 R2 = (forTurn f.G f.n0 t ib2 w i σ2 R2).bind fun r R1 => match r with
      | none => .ok (.nx, σ2) R1
      | some (.nx, σ1) => loopN (forTurn f.G f.n0 t ib2 w) m (i + 1) σ1 R1
      | some (.ct, σ1) => loopN (forTurn f.G f.n0 t ib2 w) m (i + 1) σ1 R1
      | some (.bk, σ1) => .ok (.nx, σ1) R1
      | some (.rt v, σ1) => .ok (.rt v, σ1) R1 := rfl
    rw [e1] at p
    obtain ⟨sv1, sv2⟩ := serve (n0 := f.n0) S2 rw2 (i := i)
    cases q : w.at i R2 with
    | none =>
      have e2 : forTurn f.G f.n0 t ib2 w i σ2 R2 = .no := by unfold forTurn; rw [q]
      rw [e2] at p
      exact False.elim p
    | some o =>
      cases o with
      | none =>
        have e2 : forTurn f.G f.n0 t ib2 w i σ2 R2 = .ok none R2 := by unfold forTurn; rw [q]
        rw [e2] at p
        exact .inl ⟨sv1 q, p.ok S2 (.nx hs2)⟩
      | some v =>
        have e2 : forTurn f.G f.n0 t ib2 w i σ2 R2 = (evT f.G f.n0 t v σ2 R2).bind fun σ1 R1 => (evSs f.G f.n0 ib2 σ1 R1).bind fun r R2 => .ok (some r) R2 := by unfold forTurn; rw [q]
        rw [e2, Rz.bind_assoc] at p
        obtain ⟨go, yl⟩ := sv2 v q
        refine .inr ⟨go, _, fun σ' H' h => ⟨m, Nat.lt_succ_self m, h⟩, fun x H3 y => ?_⟩
        obtain ⟨L3, S3, r3⟩ := yl x H3 y
        refine ⟨N, σ2, α2, R2, v, hn2, hs2.later L3, S3, r3, (Post.bind (rel := RelT σV2 t.ids (f.k N)) (p.later L3)).mono ?_⟩
        rintro σV4 H4 ⟨α4, R4, σ4, L4, S4, ⟨hs4, _, _⟩, p4⟩
        try dsimp only at p4
        rw [Rz.bind_assoc] at p4
        have p5 := p4.exc (fun k d H' h => fl k d _ σV4 H' h)
        refine ⟨N, σ4, α4, R4, Nat.le_trans hn2 L4.len, hs4, S4, (Post.bind (rel := RelF (f.k N)) p5).mono ?_⟩
        rintro g H5 ⟨α5, R5, r, L5, S5, rf, p5⟩
        have hn5 := Nat.le_trans (Nat.le_trans hn2 L4.len) L5.len
        have rw5 := ((rw2.later L3).later L4).later L5
        cases rf with
        | nx hs5 => exact ⟨_, α5, R5, hn5, hs5, S5, rw5, (show Post (f.k N) (RelF (f.k N)) f.n0 α5 R5 H5 (loopN (forTurn f.G f.n0 t ib2 w) m (i + 1) _ R5) (endsP D) _ from p5).exc fun k d H' h => fl k d _ _ H' h⟩
        | ct hs5 => exact ⟨_, α5, R5, hn5, hs5, S5, rw5, (show Post (f.k N) (RelF (f.k N)) f.n0 α5 R5 H5 (loopN (forTurn f.G f.n0 t ib2 w) m (i + 1) _ R5) (endsP D) _ from p5).exc fun k d H' h => fl k d _ _ H' h⟩
        | bk hs5 => exact (show Post (f.k N) (RelF (f.k N)) f.n0 α5 R5 H5 (.ok (.nx, _) R5) (endsP D) _ from p5).ok S5 (.nx hs5)
        | @rt σ6 t v r5 => exact (show Post (f.k N) (RelF (f.k N)) f.n0 α5 R5 H5 (.ok (.rt _, σ6) R5) (endsP D) _ from p5).ok S5 (.rt r5)
/-- what a while's turn does -/
def whlTurn (G : Ga) (n0 : Nat) (c : Ex) (b : Sms) : Nat → Slots → Rs → Rz (Option (Fl × Slots)) := fun _ σ R => (evE G n0 c σ R).bind fun x R1 => match truV R1 x with
  | some true => (evSs G n0 b σ R1).bind fun r R2 => .ok (some r) R2
  | some false => .ok none R1
  | none => .no
theorem evS_whl {G : Ga} {n0 : Nat} {σ : Slots} {R : Rs} : evS G n0 (.whl ia ib2) σ R = loopN (whlTurn G n0 ia ib2) W0 0 σ R := by rw [evS] <;> rfl
theorem whlTurn_eq {G : Ga} {n0 : Nat} {i : Nat} {σ : Slots} {R : Rs} : whlTurn G n0 ia ib2 i σ R = (evB G n0 ia σ R).bind fun k R1 => match k with
  | true => (evSs G n0 ib2 σ R1).bind fun r R2 => .ok (some r) R2
  | false => .ok none R1 := by
  unfold whlTurn evB
  rw [Rz.bind_assoc]
  congr 1
  funext x R1
  cases truV R1 x with
  | none => rfl
  | some k => cases k <;> rfl
theorem q_whl (fl : Flat f) (hp : PassesOwn (model X.prog X.w) X.A X.env X.xe) (hc : PT X a (tT f ia)) (hb : PSs X body (tSs f ib2)) : PS X (.While a body [] pos) (tS f (.whl ia ib2)) := PSx.imp (ps_while hp hc hb) fun D σV H h => by
  obtain ⟨N, σ, α, R, hn, hs, S, p⟩ := h
  rw [evS_whl] at p
  refine ⟨fun m σV' H' => ∃ i σ α R, f.n0 ≤ R.length ∧ StR (f.k N) α R.length H' σ σV' ∧ SR (f.k N) α R H' ∧ Post (f.k N) (RelF (f.k N)) f.n0 α R H' (loopN (whlTurn f.G f.n0 ia ib2) m i σ R) (endsP D) (f.Eat σV'),
    ⟨W0, 0, σ, α, R, hn, hs, S, p⟩, ?_⟩
  rintro m σV2 H2 ⟨i, σ2, α2, R2, hn2, hs2, S2, p⟩
  cases m with
  | zero => exact False.elim p
  | succ m =>
    have e1 : loopN (whlTurn f.G f.n0 ia ib2) (m + 1) i σ2 R2 = (whlTurn f.G f.n0 ia ib2 i σ2 R2).bind fun r R1 => match r with
      | none => .ok (.nx, σ2) R1
      | some (.nx, σ1) => loopN (whlTurn f.G f.n0 ia ib2) m (i + 1) σ1 R1
      | some (.ct, σ1) => loopN (whlTurn f.G f.n0 ia ib2) m (i + 1) σ1 R1
      | some (.bk, σ1) => .ok (.nx, σ1) R1
      | some (.rt v, σ1) => .ok (.rt v, σ1) R1 := rfl
    rw [e1, whlTurn_eq, Rz.bind_assoc] at p
    refine ⟨N, σ2, α2, R2, hn2, hs2, S2, (Post.bind (rel := fun _ _ _ a b => a = b) p).mono ?_⟩
    rintro k H3 ⟨α3, R3, k', L3, S3, e3, p⟩
    cases e3
    cases k with
    | false =>
      rw [if_neg Bool.false_ne_true]
      exact (show Post (f.k N) (RelF (f.k N)) f.n0 α3 R3 H3 (.ok (.nx, σ2) R3) (endsP D) _ from p).ok S3 (.nx (hs2.later L3))
    | true =>
      rw [if_pos rfl]
      refine ⟨_, fun σ' H' h => ⟨m, Nat.lt_succ_self m, h⟩, ?_⟩
      try dsimp only at p
      rw [Rz.bind_assoc] at p
      refine ⟨N, σ2, α3, R3, Nat.le_trans hn2 L3.len, hs2.later L3, S3, (Post.bind (rel := RelF (f.k N)) p).mono ?_⟩
      rintro g H5 ⟨α5, R5, r, L5, S5, rf, p5⟩
      have hn5 := Nat.le_trans (Nat.le_trans hn2 L3.len) L5.len
      cases rf with
      | nx hs5 => exact ⟨i + 1, _, α5, R5, hn5, hs5, S5, (show Post (f.k N) (RelF (f.k N)) f.n0 α5 R5 H5 (loopN (whlTurn f.G f.n0 ia ib2) m (i + 1) _ R5) (endsP D) _ from p5).exc fun k d H' h => fl k d _ _ H' h⟩
      | ct hs5 => exact ⟨i + 1, _, α5, R5, hn5, hs5, S5, (show Post (f.k N) (RelF (f.k N)) f.n0 α5 R5 H5 (loopN (whlTurn f.G f.n0 ia ib2) m (i + 1) _ R5) (endsP D) _ from p5).exc fun k d H' h => fl k d _ _ H' h⟩
      | bk hs5 => exact (show Post (f.k N) (RelF (f.k N)) f.n0 α5 R5 H5 (.ok (.nx, _) R5) (endsP D) _ from p5).ok S5 (.nx hs5)
      | @rt σ6 t v r5 => exact (show Post (f.k N) (RelF (f.k N)) f.n0 α5 R5 H5 (.ok (.rt _, σ6) R5) (endsP D) _ from p5).ok S5 (.rt r5)
end
/-! ### comprehensions -/
section
variable {c : Kc} {N : Addr → Prop} {α α2 : Nat → Addr} {n : Nat} {R R2 : Rs} {H H2 : Hp} {p : Addr} {ob ob0 : HO} {n0 : Nat}
theorem touch_get {a : Addr} {o : HO} (b : ¬ Bad (c.w (addG N p)) α n a) (h : H a = some o) : upd H p ob a = some o := by rw [upd_ne (bad_light b).1]; exact h
mutual
theorem Rep.touch : ∀ {x : TV} {v : V}, Rep (c.w (addG N p)) α n H x v → Rep (c.w (addG N p)) α n (upd H p ob) x v
  | _, _, .non => .non
  | _, _, .bl b => .bl b
  | _, _, .int i => .int i
  | _, _, .str s => .str s
  | _, _, .ty s => .ty s
  | _, _, .lst h m r => .lst (touch_get m h) m (Reps.touch r)
  | _, _, .klstF h m r => .klstF (touch_get m h) m (Reps.touch r)
  | _, _, .klstK h r => .klstK h (Reps.touch r)
  | _, _, .tup h m r => .tup (touch_get m h) m (Reps.touch r)
  | _, _, .tupK h r => .tupK h (Reps.touch r)
  | _, _, .dct h m r => .dct (touch_get m h) m (RepK.touch r)
  | _, _, .ins h m r => .ins (touch_get m h) m (RepF.touch r)
  | _, _, .root h => .root h
theorem Reps.touch : ∀ {x : List TV} {v : List V}, Reps (c.w (addG N p)) α n H x v → Reps (c.w (addG N p)) α n (upd H p ob) x v
  | _, _, .nil => .nil
  | _, _, .cons a b => .cons (Rep.touch a) (Reps.touch b)
theorem RepK.touch : ∀ {x : List (Key × TV)} {v : List (Key × V)}, RepK (c.w (addG N p)) α n H x v → RepK (c.w (addG N p)) α n (upd H p ob) x v
  | _, _, .nil => .nil
  | _, _, .cons a b => .cons (Rep.touch a) (RepK.touch b)
theorem RepF.touch : ∀ {x : List (Str × TV)} {v : List (Str × V)}, RepF (c.w (addG N p)) α n H x v → RepF (c.w (addG N p)) α n (upd H p ob) x v
  | _, _, .nil => .nil
  | _, _, .cons a b => .cons (Rep.touch a) (RepF.touch b)
end
theorem RepO.touch {o : RO} {a : Addr} (ha : a ≠ p) (h : RepO (c.w (addG N p)) α n H o a) : RepO (c.w (addG N p)) α n (upd H p ob) o a := by
  cases o with
  | lst xs => obtain ⟨vs, h, r⟩ := h; exact ⟨vs, by rw [upd_ne ha]; exact h, r.touch⟩
  | dct xs => obtain ⟨vs, h, r⟩ := h; exact ⟨vs, by rw [upd_ne ha]; exact h, r.touch⟩
  | ins k xs => obtain ⟨dx, vs, h, r⟩ := h; exact ⟨dx, vs, by rw [upd_ne ha]; exact h, r.touch⟩
theorem SR.touch (S : SR (c.w (addG N p)) α R H) : SR (c.w (addG N p)) α R (upd H p ob) := by
  refine ⟨fun a z => ?_, S.ng, fun k o h => (S.obj k o h).touch (S.notp (List.getElem?_eq_some_iff.mp h).1), S.inj⟩
  by_cases e : a = p
  · subst e; rw [upd_same]; exact fun z => nomatch z
  · rw [upd_ne e]; exact S.gh a z
theorem StR.touch {σ : Slots} {σV : L2.St} (s : StR (c.w (addG N p)) α n H σ σV) : StR (c.w (addG N p)) α n (upd H p ob) σ σV := ⟨s.len, fun i x h => let ⟨v, h1, h2⟩ := s.at_ i x h; ⟨v, h1, h2.touch⟩⟩
theorem RepW.touch {w : Wk} {J : L2.It} (r : RepW (c.w (addG N p)) α n H w J) : RepW (c.w (addG N p)) α n (upd H p ob) w J := by
  cases r with
  | lst r => exact .lst r.touch
  | tup r => exact .tup r.touch
  | str s => exact .str s
  | rng lo m => exact .rng lo m
  | enum r => exact .enum r.touch
  | enumT r => exact .enumT r.touch
  | zip r q => exact .zip r.touch q.touch
  | zipT r q => exact .zipT r.touch q.touch
theorem Later.touch (L : Later n0 α R H α2 R2 H2) (hp : H p = none) : Later n0 α R H α2 R2 (upd H2 p ob) := by
  refine ⟨L.len, L.al, fun a o h hm => ?_, fun a h => L.trk a (upd_none h).2, L.mm, L.cl⟩
  rw [upd_ne (ne_of_none h hp)]; exact L.keep a o h hm
theorem Later.rooted (L : Later n0 α R H α2 R2 H2) (hp : H p = none) (hn : n0 ≤ R2.length) {o : RO} : Later n0 α R H (snocA α2 R2.length p) (R2 ++ [o]) (upd H2 p ob) := by
  refine ⟨Nat.le_trans L.len (by simp), fun k hk => by rw [snocA_lt (Nat.lt_of_lt_of_le hk L.len)]; exact L.al k hk, fun a o h hm => ?_, fun a h => L.trk a (upd_none h).2, fun a ⟨k, hk, e⟩ => ?_, fun m hm h => (L.cl m hm h).snoc (Nat.le_trans hm hn)⟩
  · rw [upd_ne (ne_of_none h hp)]; exact L.keep a o h hm
  · rw [List.length_append] at hk
    by_cases h : k < R2.length
    · rw [snocA_lt h] at e
      exact L.mm a ⟨k, h, e⟩
    · have : k = R2.length := by have : [o].length = 1 := rfl; omega
      subst this
      rw [snocA_at] at e
      subst e; exact .inr hp
theorem lit_ok {r : Bool} {o : RO} {Q : V → Hp → Prop} {E : Nat → Addr → Hp → Prop} (S0 : SR (c.w N) α R H) (hp : H p = none) (hn : n0 ≤ R.length) (L : Later n0 α R H α2 R2 H2) (S : SR (c.w (addG N p)) α2 R2 H2) (ho : HOof (c.w (addG N p)) α2 R2.length H2 o ob)
    (h : Post (c.w N) (Rep (c.w N)) n0 α R H (alloc r o R2) Q E) : Q (.ref p) (upd H2 p ob) := by
  have hN : ¬ N p := fun z => S0.gh p z hp
  cases r with
  | false =>
    refine h α2 (upd H2 p ob) (.ref p) (L.touch hp) S.light ?_
    have hm : ¬ Bad (c.w N) α2 R2.length p := by
      rintro (⟨k, hk, e⟩ | z)
      · exact S.notp hk e
      · exact hN z
    cases o with
    | lst xs => obtain ⟨vs, rfl, q⟩ := ho; exact .lst upd_same hm q.light
    | dct xs => obtain ⟨vs, rfl, q⟩ := ho; exact .dct upd_same hm q.light
    | ins k xs => obtain ⟨dx, vs, rfl, q⟩ := ho; exact .ins upd_same hm q.light
  | true =>
    have hl : (R2 ++ [o]).length = R2.length + 1 := by simp
    refine h _ _ _ (L.rooted hp (Nat.le_trans hn L.len)) (SR.toRoot hN S ?_) ?_
    · cases o with
      | lst xs => obtain ⟨vs, rfl, q⟩ := ho; exact ⟨vs, upd_same, q.toRoot⟩
      | dct xs => obtain ⟨vs, rfl, q⟩ := ho; exact ⟨vs, upd_same, q.toRoot⟩
      | ins k xs => obtain ⟨dx, vs, rfl, q⟩ := ho; exact ⟨dx, vs, upd_same, q.toRoot⟩
    · have : V.ref p = V.ref (snocA α2 R2.length p R2.length) := by rw [snocA_at]
      rw [this, hl]
      exact .root (Nat.lt_succ_self _)
/-- a part of an evaluation while p is hidden, errors ruled out -/
theorem Post.hid {β γ δ ε ζ : Type} {N' : Addr → Prop} {rel : Rel β γ} {rel2 : Rel δ ε} {r : Rz β} {k : β → Rs → Rz ζ} {g : ζ → Rs → Rz δ} {Q : ε → Hp → Prop} {E E' : Nat → Addr → Hp → Prop} (h : Post (c.w N) rel2 n0 α R H ((r.bind k).noexc.bind g) Q E) :
    Post (c.w N') rel n0 α2 R2 H2 r (fun x H3 => ∃ α3 R3 b, Later n0 α2 R2 H2 α3 R3 H3 ∧ SR (c.w N') α3 R3 H3 ∧ rel α3 R3.length H3 b x ∧ Post (c.w N) rel2 n0 α R H ((k b R3).noexc.bind g) Q E) E' := by
  cases r with
  | ok b R1 => exact fun α1 H1 x L1 S1 r1 => ⟨α1, R1, b, L1, S1, r1, h⟩
  | exc _ _ _ => exact False.elim h
  | no => exact False.elim h
end
theorem upd_self {H : Hp} {p : Addr} {o : HO} (h : H p = some o) : upd H p o = H := by
  funext b
  by_cases e : b = p
  · subst e; rw [upd_same, h]
  · rw [upd_ne e]
/-- wipe, by places -/
theorem wipe_get {σ : L2.St} {i : Nat} : ∀ {own : List Nat}, (L2.wipe σ own)[i]? = if i ∈ own then σ[i]?.map (fun _ => none) else σ[i]?
  | [] => by rw [if_neg List.not_mem_nil] <;> rfl
  | v :: vs => by
    have ih := wipe_get (σ := σ) (i := i) (own := vs)
    show ((L2.wipe σ vs).set v none)[i]? = _
    by_cases e : v = i
    · subst e
      rw [if_pos List.mem_cons_self]
      rw [List.getElem?_set_self']
      rw [ih]
      by_cases h : v ∈ vs
      · rw [if_pos h]; cases σ[v]? <;> rfl
      · rw [if_neg h]; cases σ[v]? <;> rfl
    · rw [List.getElem?_set_ne e, ih]
      by_cases h : i ∈ vs
      · rw [if_pos h, if_pos (List.mem_cons_of_mem _ h)]
      · rw [if_neg h, if_neg (fun z => by
          rcases List.mem_cons.mp z with z | z
          · exact e z.symm
          · exact h z)]
theorem wipe_eq {σ σ2 : L2.St} {own ids : List Nat} (hl : σ2.length = σ.length) (ho : ∀ i, i ∉ ids → σ2[i]? = (L2.wipe σ own)[i]?) (hi : ∀ i ∈ ids, i ∈ own) : L2.wipe σ2 own = L2.wipe σ own := by
  apply List.ext_getElem?
  intro i
  rw [wipe_get, wipe_get]
  by_cases h : i ∈ own
  · rw [if_pos h, if_pos h]
    by_cases hb : i < σ.length
    · rw [List.getElem?_eq_getElem hb, List.getElem?_eq_getElem (hl ▸ hb)] <;> rfl
    · rw [List.getElem?_eq_none (by omega), List.getElem?_eq_none (by omega)]
  · rw [if_neg h, if_neg h, ho i (fun z => h (hi i z)), wipe_get, if_neg h]
/-- no error is wanted -/
abbrev Cf.nox (f : Cf) : Cf := { f with E := fun _ _ _ _ => False }
section
variable {f : Cf} {X : Cx} {a b d e o tg : Expr} {es : List Expr} {ia ib id ie io iif : Ex} {ies : Exs} {pos apos cpos : Pos} {σV : L2.St} {H : Hp} {iter : Expr} {it : It} {body : List Stmt} {ib2 : Sms} {t : Tg}
theorem q_ptsnil : PTs X [] (tT f (.cst (.bl true))) := ⟨fun pins s σV H Q I h => pts_nil.run pins s σV H Q I (by
  obtain ⟨N, σ, α, R, hn, hs, S, p⟩ := h
  have e1 : evB f.G f.n0 (.cst (.bl true)) σ R = .ok true R := by
    unfold evB
    rw [show evE f.G f.n0 (.cst (.bl true)) σ R = .ok (.bl true) R by rw [evE]]
    rfl
  rw [e1] at p
  exact p.ok S rfl)⟩
def compTurnT (G : Ga) (n0 : Nat) (elt : Ex) (tg : Tg) (ifs : Ex) (σ : Slots) (w : Wk) : Nat → Rs → Rz (Option (Option TV)) := fun i R => match w.at i R with
  | none => .no
  | some none => .ok none R
  | some (some v) => (evT G n0 tg v σ R).bind fun σ1 R1 => (evB G n0 ifs σ1 R1).bind fun k R2 => match k with
    | true => (evE G n0 elt σ1 R2).bind fun x R3 => .ok (some (some x)) R3
    | false => .ok (some none) R2
theorem evE_comp {G : Ga} {n0 : Nat} {σ : Slots} {R : Rs} {r : Bool} {own : List Nat} : evE G n0 (.comp r ie t it iif own) σ R = (evI G n0 it σ R).bind fun w R1 => (compN (compTurnT G n0 ie t iif (wipeT σ own) w) W0 0 [] R1).noexc.bind fun xs R2 => alloc r (.lst xs) R2 := by
  rw [evE]
  congr 1
  funext w R1
  congr 3
  funext i R
  unfold compTurnT
  cases w.at i R with
  | none => rfl
  | some o =>
    cases o with
    | none => rfl
    | some v =>
      show (evT G n0 t v (wipeT σ own) R).bind _ = (evT G n0 t v (wipeT σ own) R).bind _
      congr 1
      funext σ1 R1
      unfold evB
      rw [Rz.bind_assoc]
      congr 1
      funext x R2
      cases truV R2 x with
      | none => rfl
      | some k => cases k <;> rfl
/-- the reading of a comprehension -/
theorem tLc_of {r : Bool} {own : List Nat} {Q : VK} (hids : ∀ i ∈ t.ids, i ∈ own) (h : tE f (.comp r ie t it iif own) σV H Q) : tLc (tI f it) (tG f.nox t) (tT f.nox iif) (tE f.nox ie) own σV H Q := by
  obtain ⟨N, σ, α0, R0, hn0, hs0, S0, p⟩ := h
  rw [evE_comp] at p
  refine ⟨N, σ, α0, R0, hn0, hs0, S0, (Post.bind (rel := fun α n H w J => RepW (f.k N) α n H w J) p).mono ?_⟩
  rintro J H1 ⟨α1, R1, w, L1, S1, rw1, p⟩
  have hn1 := Nat.le_trans hn0 L1.len
  have hs1 := hs0.later L1
  intro D hD
  refine ⟨fun i m H2 => ∃ α R acc accV, Later f.n0 α1 R1 H1 α R H2 ∧ SR (f.k (addG N D)) α R H2 ∧ StR (f.k (addG N D)) α R.length H2 σ σV ∧ RepW (f.k (addG N D)) α R.length H2 w J ∧ H2 D = some (.lst accV) ∧ Reps (f.k (addG N D)) α R.length H2 acc accV ∧
      Post (f.k N) (Rep (f.k N)) f.n0 α1 R1 H1 ((compN (compTurnT f.G f.n0 ie t iif (wipeT σ own) w) m i acc R).noexc.bind fun xs R2 => alloc r (.lst xs) R2) Q (f.Eat σV),
    ⟨W0, α1, R1, [], [], Later.fresh S1 hD, S1.ghost hD, hs1.ghost hD, rw1.ghost hD, upd_same, .nil, p⟩, ?_⟩
  rintro i m H2 ⟨α, R, acc, accV, L, S, st, rw2, hDv, ra, p⟩
  cases m with
  | zero => exact False.elim p
  | succ m =>
    have e1 : compN (compTurnT f.G f.n0 ie t iif (wipeT σ own) w) (m + 1) i acc R = (compTurnT f.G f.n0 ie t iif (wipeT σ own) w i R).bind fun r R1 => match r with
      | none => .ok acc R1
      | some none => compN (compTurnT f.G f.n0 ie t iif (wipeT σ own) w) m (i + 1) acc R1
      | some (some v) => guardR (decide (acc.length < sizeLine)) (compN (compTurnT f.G f.n0 ie t iif (wipeT σ own) w) m (i + 1) (acc ++ [v]) R1) := rfl
    rw [e1] at p
    obtain ⟨sv1, sv2⟩ := serve (n0 := f.n0) S rw2 (i := i)
    have hnm : ∀ {α' : Nat → Addr} {R' : Rs} {H' : Hp}, Later f.n0 α R H2 α' R' H' → H' D = some (.lst accV) := fun L' => L'.keep D _ hDv (fun ⟨k, hk, e⟩ => S.notp hk e)
    cases q : w.at i R with
    | none =>
      have e2 : compTurnT f.G f.n0 ie t iif (wipeT σ own) w i R = .no := by unfold compTurnT; rw [q]
      rw [e2] at p
      exact False.elim p
    | some o =>
      cases o with
      | none =>
        have e2 : compTurnT f.G f.n0 ie t iif (wipeT σ own) w i R = .ok none R := by unfold compTurnT; rw [q]
        rw [e2] at p
        refine .inl ⟨sv1 q, ?_⟩
        have z := lit_ok (o := .lst acc) (ob := .lst accV) S1 hD hn1 L S ⟨_, rfl, ra⟩ p
        rw [upd_self hDv] at z
        exact z
      | some v =>
        have e2 : compTurnT f.G f.n0 ie t iif (wipeT σ own) w i R = (evT f.G f.n0 t v (wipeT σ own) R).bind fun σ1 R1 => (evB f.G f.n0 iif σ1 R1).bind fun k R2 => match k with
          | true => (evE f.G f.n0 ie σ1 R2).bind fun x R3 => .ok (some (some x)) R3
          | false => .ok (some none) R2 := by unfold compTurnT; rw [q]
        rw [e2, Rz.bind_assoc] at p
        obtain ⟨go, yl⟩ := sv2 v q
        refine .inr ⟨go, _, fun H' h => ⟨m, Nat.lt_succ_self m, h⟩, fun x H3 y => ?_⟩
        obtain ⟨L3, S3, r3⟩ := yl x H3 y
        have hn3 : f.n0 ≤ R.length := Nat.le_trans hn1 L.len
        refine ⟨addG N D, wipeT σ own, α, R, v, hn3, (st.later L3).wipe own, S3, r3, (Post.hid (rel := RelT (L2.wipe σV own) t.ids (f.nox.k (addG N D))) p).mono ?_⟩
        rintro σV4 H4 ⟨α4, R4, σ4, L4, S4, ⟨hs4, hl4, ho4⟩, p4⟩
        have hw : L2.wipe σV4 own = L2.wipe σV own := wipe_eq (by rw [hl4, wipe_length]) ho4 hids
        refine ⟨hw, ?_⟩
        try dsimp only at p4
        rw [Rz.bind_assoc] at p4
        refine ⟨addG N D, σ4, α4, R4, Nat.le_trans hn3 L4.len, hs4, S4, (Post.hid (rel := fun _ _ _ a b => a = b) p4).mono ?_⟩
        rintro k H5 ⟨α5, R5, k', L5, S5, e5, p5⟩
        cases e5
        have L345 := (L3.trans L4).trans L5
        cases k with
        | false =>
          rw [if_neg Bool.false_ne_true]
          exact ⟨α5, R5, acc, accV, L.trans L345, S5, st.later L345, rw2.later L345, hnm L345, ra.later L345, p5⟩
        | true =>
          rw [if_pos rfl]
          try dsimp only at p5
          rw [Rz.bind_assoc] at p5
          refine ⟨addG N D, σ4, α5, R5, Nat.le_trans (Nat.le_trans hn3 L4.len) L5.len, hs4.later L5, S5, (Post.hid (rel := Rep (f.nox.k (addG N D))) p5).mono ?_⟩
          rintro z H6 ⟨α6, R6, tz, L6, S6, r6, p6⟩
          have L36 := L345.trans L6
          try dsimp only [Rz.bind_ok] at p6
          have p7 : Post (f.k N) (Rep (f.k N)) f.n0 α1 R1 H1 ((guardR (decide (acc.length < sizeLine)) (compN (compTurnT f.G f.n0 ie t iif (wipeT σ own) w) m (i + 1) (acc ++ [tz]) R6)).noexc.bind fun xs R2 => alloc r (.lst xs) R2) Q (f.Eat σV) := p6
          by_cases hz : acc.length < sizeLine
          · rw [decide_eq_true hz] at p7
            exact ⟨accV, hnm L36, ra.length ▸ hz, α6, R6, acc ++ [tz], accV ++ [z], (L.trans L36).touch hD, S6.touch, (st.later L36).touch, (rw2.later L36).touch, upd_same, ((ra.later L36).append (.cons r6 .nil)).touch, p7⟩
          · rw [decide_eq_false hz] at p7
            exact False.elim p7
theorem q_comp (r : Bool) {scope : Scope} {own : List (Str × Nat)} {ifs : List Expr} (hc : X.calm = true) (hN : X.N.Nodup) (hids : ∀ i ∈ t.ids, i ∈ own.map (·.2)) (hi : PI X tg iter (tI f it)) (ok : BlkOk X.N X.env.scope scope own)
    (hg : ∀ (s : Shared) (H : Hp) (C : Addr) (cl : List (Str × Addr)) (fp : List Addr), PG (X.blk s H scope (compEnvC scope cl C X.env) fp) tg (tG f.nox t)) (ht : ∀ (s : Shared) (H : Hp) (C : Addr) (cl : List (Str × Addr)) (fp : List Addr), PTs (X.blk s H scope (compEnvC scope cl C X.env) fp) ifs (tT f.nox iif))
    (he : ∀ (s : Shared) (H : Hp) (C : Addr) (cl : List (Str × Addr)) (fp : List Addr), PE (X.blk s H scope (compEnvC scope cl C X.env) fp) e (tE f.nox ie)) (hs : ∀ x, foldedSetIterable iter X.env x = pure x) :
    PE X (.ListComp e [⟨tg, iter, ifs, 0⟩] scope pos) (tE f (.comp r ie t it iif (own.map (·.2)))) := PEx.imp (pe_lc hc hN hi ok hg ht he hs) fun σV H Q h => tLc_of hids h
end
end Pv

/-! E15: statements. -/
namespace Pv
open PySem PySem.Spec PyProof.Rows L2
section
variable {f : Cf} {X : Cx} {a b d e o tg : Expr} {es : List Expr} {ia ib id ie io iif : Ex} {ies : Exs} {pos apos cpos : Pos} {σV : L2.St} {H : Hp} {iter : Expr} {it : It} {st : Stmt} {sts body orelse : List Stmt} {is : Sm} {iss ib1 ib2 : Sms} {t : Tg}
theorem q_ssnil : PSs X [] (tSs f .nil) := PSsx.imp pss_nil fun D σV H h => by
  obtain ⟨N, σ, α, R, hn, hs, S, p⟩ := h
  rw [show evSs f.G f.n0 .nil σ R = .ok (.nx, σ) R by rw [evSs]] at p
  exact p.ok S (.nx hs)
theorem evSs_cons {G : Ga} {n0 : Nat} {σ : Slots} {R : Rs} : evSs G n0 (.cons is iss) σ R = (evS G n0 is σ R).bind fun r R1 => match r with
    | (.nx, σ1) => evSs G n0 iss σ1 R1
    | r => .ok r R1 := by rw [evSs] <;> rfl
theorem q_sscons (fl : Flat f) (h1 : PS X st (tS f is)) (h2 : PSs X sts (tSs f iss)) : PSs X (st :: sts) (tSs f (.cons is iss)) := PSsx.imp (pss_cons h1 h2) fun D σV H h => by
  obtain ⟨N, σ, α, R, hn, hs, S, p⟩ := h
  rw [evSs_cons] at p
  refine ⟨N, σ, α, R, hn, hs, S, (Post.bind (rel := RelF (f.k N)) p).mono ?_⟩
  rintro g H1 ⟨α1, R1, r, L1, S1, rf, p⟩
  cases rf with
  | nx hs1 =>
    exact ⟨N, _, α1, R1, Nat.le_trans hn L1.len, hs1, S1, (show Post (f.k N) (RelF (f.k N)) f.n0 α1 R1 H1 (evSs f.G f.n0 iss _ R1) (endsP D) _ from p).exc fun k d H' h => fl k d _ _ H' h⟩
  | @rt σ6 t v r => exact (show Post (f.k N) (RelF (f.k N)) f.n0 α1 R1 H1 (.ok (.rt _, σ6) R1) (endsP D) _ from p).ok S1 (.rt r)
  | bk hs1 => exact (show Post (f.k N) (RelF (f.k N)) f.n0 α1 R1 H1 (.ok (.bk, _) R1) (endsP D) _ from p).ok S1 (.bk hs1)
  | ct hs1 => exact (show Post (f.k N) (RelF (f.k N)) f.n0 α1 R1 H1 (.ok (.ct, _) R1) (endsP D) _ from p).ok S1 (.ct hs1)
theorem q_expr (he : PE X e (tE f ie)) (hs : swapsWith e none pos.line X.env = pure false) : PS X (.Expr e pos) (tS f (.expr ie)) := PSx.imp (ps_expr he hs) fun D σV H h => by
  obtain ⟨N, σ, α, R, hn, hs, S, p⟩ := h
  rw [show evS f.G f.n0 (.expr ie) σ R = (evE f.G f.n0 ie σ R).bind fun _ R1 => .ok (.nx, σ) R1 by rw [evS]] at p
  refine ⟨N, σ, α, R, hn, hs, S, (Post.bind (rel := Rep (f.k N)) p).mono ?_⟩
  rintro x H1 ⟨α1, R1, tx, L1, S1, r1, p⟩
  exact p.ok S1 (.nx (hs.later L1))
theorem q_ret (he : PE X e (tE f ie)) : PS X (.Return (some e) pos) (tS f (.ret ie)) := PSx.imp (ps_ret he) fun D σV H h => by
  obtain ⟨N, σ, α, R, hn, hs, S, p⟩ := h
  rw [show evS f.G f.n0 (.ret ie) σ R = (evE f.G f.n0 ie σ R).bind fun v R1 => .ok (.rt v, σ) R1 by rw [evS]] at p
  refine ⟨N, σ, α, R, hn, hs, S, (Post.bind (rel := Rep (f.k N)) p).mono ?_⟩
  rintro x H1 ⟨α1, R1, tx, L1, S1, r1, p⟩
  exact p.ok S1 (.rt r1)
theorem q_retN : PS X (.Return none pos) (tS f .retN) := PSx.imp ps_retN fun D σV H h => by
  obtain ⟨N, σ, α, R, hn, hs, S, p⟩ := h
  rw [show evS f.G f.n0 .retN σ R = .ok (.rt .non, σ) R by rw [evS]] at p
  exact p.ok S (.rt .non)
theorem q_pass : PS X (.Pass pos) (tS f .pass) := PSx.imp ps_pass fun D σV H h => by
  obtain ⟨N, σ, α, R, hn, hs, S, p⟩ := h
  rw [show evS f.G f.n0 .pass σ R = .ok (.nx, σ) R by rw [evS]] at p
  exact p.ok S (.nx hs)
theorem q_brk : PS X (.Break pos) (tS f .brk) := PSx.imp ps_break fun D σV H h => by
  obtain ⟨N, σ, α, R, hn, hs, S, p⟩ := h
  rw [show evS f.G f.n0 .brk σ R = .ok (.bk, σ) R by rw [evS]] at p
  exact p.ok S (.bk hs)
theorem q_cont : PS X (.Continue pos) (tS f .cont) := PSx.imp ps_continue fun D σV H h => by
  obtain ⟨N, σ, α, R, hn, hs, S, p⟩ := h
  rw [show evS f.G f.n0 .cont σ R = .ok (.ct, σ) R by rw [evS]] at p
  exact p.ok S (.ct hs)
/-- code that the evaluator is stuck at -/
theorem q_never : PS X st (tS f .stuck) := PSx.imp ps_never fun D σV H h => by
  obtain ⟨N, σ, α, R, hn, hs, S, p⟩ := h
  rw [show evS f.G f.n0 .stuck σ R = .no by rw [evS]] at p
  exact p
theorem evS_asg {G : Ga} {n0 : Nat} {σ : Slots} {R : Rs} : evS G n0 (.asg t ie) σ R = (evE G n0 ie σ R).bind fun v R1 => (evT G n0 t v σ R1).bind fun σ1 R2 => .ok (.nx, σ1) R2 := by rw [evS]
theorem asg_of {D : Ends} (h : tS f (.asg t ie) D σV H) : tE f ie σV H fun x H1 => tG f t x σV H1 D.nx := by
  obtain ⟨N, σ, α, R, hn, hs, S, p⟩ := h
  rw [evS_asg] at p
  refine ⟨N, σ, α, R, hn, hs, S, (Post.bind (rel := Rep (f.k N)) p).mono ?_⟩
  rintro x H1 ⟨α1, R1, tx, L1, S1, r1, p⟩
  refine ⟨N, σ, α1, R1, tx, Nat.le_trans hn L1.len, hs.later L1, S1, r1, (Post.bind (rel := RelT σV t.ids (f.k N)) p).mono ?_⟩
  rintro σV2 H2 ⟨α2, R2, σ2, L2, S2, ⟨hs2, _, _⟩, p⟩
  exact p.ok S2 (.nx hs2)
theorem q_asg (he : PE X e (tE f ie)) (hg : PG X tg (tG f t)) (hs : swapsWithSole [tg] e pos.line X.env = pure false) (hw : swappedStores [tg] e X.env = pure none) (h1 : (assignEach [tg] X.env).map (·.2) = [assign tg X.env]) :
    PS X (.Assign [tg] e pos) (tS f (.asg t ie)) := PSx.imp (ps_asg he hg hs hw h1) fun D σV H h => asg_of h
theorem gName_of {i : Nat} {x : V} {Q : L2.St → Hp → Prop} (h : tG f (.name i) x σV H Q) : gName i x σV H Q := by
  obtain ⟨N, σ, α, R, y, hn, hs, S, rv, p⟩ := h
  rw [show evT f.G f.n0 (.name i) y σ R = .ok (σ.set i (some y)) R by rw [evT]] at p
  refine p α H _ Later.refl S ⟨hs.set rv i, List.length_set, fun j hj => ?_⟩
  rw [List.getElem?_set_ne]
  intro z
  exact hj (by show j ∈ [i]; rw [z]; exact List.mem_cons_self)
/-- name = [..], on one line -/
theorem q_setLc {i : Nat} {y : Str} {py : Pos} (r : Bool) {scope : Scope} {own : List (Str × Nat)} {ifs : List Expr} {lpos : Pos} (hc : X.calm = true) (hN : X.N.Nodup) (hy : X.N[i]? = some y) (hyl : X.env.scope.names.lookup y = some .local)
    (hsw : swapsWith (.ListComp e [⟨tg, iter, ifs, 0⟩] scope lpos) (some (.Name y py)) pos.line X.env = pure true) (hids : ∀ i ∈ t.ids, i ∈ own.map (·.2)) (hi : PI X tg iter (tI f it)) (ok : BlkOk X.N X.env.scope scope own)
    (hg : ∀ (s : Shared) (H : Hp) (C : Addr) (cl : List (Str × Addr)) (fp : List Addr), PG (X.blk s H scope (compEnvC scope cl C X.env) fp) tg (tG f.nox t)) (ht : ∀ (s : Shared) (H : Hp) (C : Addr) (cl : List (Str × Addr)) (fp : List Addr), PTs (X.blk s H scope (compEnvC scope cl C X.env) fp) ifs (tT f.nox iif))
    (he : ∀ (s : Shared) (H : Hp) (C : Addr) (cl : List (Str × Addr)) (fp : List Addr), PE (X.blk s H scope (compEnvC scope cl C X.env) fp) e (tE f.nox ie)) (hs : ∀ x, foldedSetIterable iter X.env x = pure x) :
    PS X (.Assign [.Name y py] (.ListComp e [⟨tg, iter, ifs, 0⟩] scope lpos) pos) (tS f (.asg (.name i) (.comp r ie t it iif (own.map (·.2))))) :=
  PSx.imp (ps_setLc hc hN hy hyl hsw hi ok hg ht he hs) fun D σV H h => tLc_of hids (tE_mono (asg_of h) fun x H1 h1 => gName_of h1)
theorem q_par {i j : Nat} {x y : Str} {px py pt : Pos} {kt k2 pt2} (hc : X.calm = true) (hN : X.N.Nodup) (hi : X.N[i]? = some x) (hj : X.N[j]? = some y) (hij : i ≠ j)
    (hx : X.env.scope.names.lookup x = some .local) (hy : X.env.scope.names.lookup y = some .local) (ha : PA X [a, b] (tA f (.cons ia (.cons ib .nil))))
    (hw : swappedStores [.Tuple [.Name x px, .Name y py] kt pt] (.Tuple [a, b] k2 pt2) X.env = pure (some [x, y]))
    (hs : swapsWithSole [.Tuple [.Name x px, .Name y py] kt pt] (.Tuple [a, b] k2 pt2) pos.line X.env = pure false) :
    PS X (.Assign [.Tuple [.Name x px, .Name y py] kt pt] (.Tuple [a, b] k2 pt2) pos) (tS f (.par i j ia ib)) := PSx.imp (ps_par hc hN hi hj hij hx hy ha hw hs) fun D σV H h => by
  obtain ⟨N, σ, α, R, hn, hs, S, p⟩ := h
  have e1 : evS f.G f.n0 (.par i j ia ib) σ R = (evs f.G f.n0 (.cons ia (.cons ib .nil)) σ R).bind fun vs R2 => match vs with
    | [x, y] => .ok (.nx, (σ.set i (some x)).set j (some y)) R2
    | _ => .no := by
    rw [evS, evs]
    cases evE f.G f.n0 ia σ R with
    | ok x R1 =>
      simp only [Rz.bind_ok]
      rw [evs]
      cases evE f.G f.n0 ib σ R1 with
      | ok y R2 => simp only [Rz.bind_ok]; rw [evs] <;> rfl
      | exc _ _ _ => rfl
      | no => rfl
    | exc _ _ _ => rfl
    | no => rfl
  rw [e1] at p
  refine ⟨N, σ, α, R, hn, hs, S, (Post.bind (rel := Reps (f.k N)) p).mono ?_⟩
  rintro vs H1 ⟨α1, R1, ts, L1, S1, r1, p⟩
  cases r1 with
  | nil => exact False.elim p
  | @cons x xs v vs r rs =>
    cases rs with
    | nil => exact False.elim p
    | @cons y ys v2 vs r2 rs =>
      cases rs with
      | cons _ _ => exact False.elim p
      | nil => exact ⟨v, v2, rfl, (show Post (f.k N) (RelF (f.k N)) f.n0 α1 R1 H1 (.ok (.nx, (σ.set i (some x)).set j (some y)) R1) (endsP D) _ from p).ok S1 (.nx (((hs.later L1).set r i).set r2 j))⟩
theorem q_if (fl : Flat f) (hc : PT X a (tT f ia)) (h1 : PSs X body (tSs f ib1)) (h2 : PSs X orelse (tSs f ib2)) : PS X (.If a body orelse pos) (tS f (.ifs ia ib1 ib2)) := PSx.imp (ps_if hc h1 h2) fun D σV H h => by
  obtain ⟨N, σ, α, R, hn, hs, S, p⟩ := h
  have e1 : evS f.G f.n0 (.ifs ia ib1 ib2) σ R = (evB f.G f.n0 ia σ R).bind fun k R1 => match k with
    | true => evSs f.G f.n0 ib1 σ R1
    | false => evSs f.G f.n0 ib2 σ R1 := by
    rw [evS]
    unfold evB
    rw [Rz.bind_assoc]
    congr 1
    funext x R1
    cases truV R1 x with
    | none => rfl
    | some k => cases k <;> rfl
  rw [e1] at p
  refine ⟨N, σ, α, R, hn, hs, S, (Post.bind (rel := fun _ _ _ a b => a = b) p).mono ?_⟩
  rintro k H1 ⟨α1, R1, k', L1, S1, e, p⟩
  cases e
  cases k with
  | true => rw [if_pos rfl]; exact ⟨N, σ, α1, R1, Nat.le_trans hn L1.len, hs.later L1, S1, p⟩
  | false => rw [if_neg Bool.false_ne_true]; exact ⟨N, σ, α1, R1, Nat.le_trans hn L1.len, hs.later L1, S1, p⟩
/-- o.f = e -/
theorem q_fldset {nm : Str} (ha : PE X o (tE f io)) (hv : PE X e (tE f ie)) (hk : FldOk f X.K nm) (hs : swapsWith e (some (.Attribute o nm apos)) pos.line X.env = pure false) : PS X (.Assign [.Attribute o nm apos] e pos) (tS f (.asg (.fld io nm) ie)) :=
  PSx.imp (ps_fld ha hv hs) fun D σV H h => by
    refine tE_mono (asg_of h) fun x H1 ⟨N, σ, α, R, tx, hn, hs, S, rv, p⟩ => ?_
    have e1 : evT f.G f.n0 (.fld io nm) tx σ R = (evE f.G f.n0 io σ R).bind fun x R1 => match putFld f.G f.n0 x nm tx R1 with
      | some R2 => .ok σ R2
      | none => .no := by rw [evT] <;> rfl
    rw [e1] at p
    refine ⟨N, σ, α, R, hn, hs, S, (Post.bind (rel := Rep (f.k N)) p).mono ?_⟩
    rintro ov H2 ⟨α2, R2, to, L2, S2, r2, p⟩
    have rx := rv.later L2
    have hs2 := hs.later L2
    cases to with
    | root k =>
      have e := root_at S2 r2
      have p2 : Post (f.k N) (RelT σV [] (f.k N)) f.n0 α2 R2 H2 (match (match R2[k]? with
        | some (.ins c fs) => match f.G.fldk c nm with
          | .fld => guardO (decide (fs.length < 1000)) (setR f.n0 k (.ins c (putFT nm tx fs)) [tx] R2)
          | _ => none
        | _ => none) with
        | some R3 => .ok σ R3
        | none => .no) D.nx (f.Eat σV) := p
      clear p
      cases q : R2[k]? with
      | none => rw [q] at p2; exact False.elim p2
      | some ob =>
        rw [q] at p2
        cases ob with
        | ins c fs =>
          try dsimp only at p2
          have hj := hk c
          cases q2 : f.G.fldk c nm with
          | fld =>
            rw [q2] at p2 hj
            try dsimp only at p2
            cases q3 : guardO (decide (fs.length < 1000)) (setR f.n0 k (.ins c (putFT nm tx fs)) [tx] R2) with
            | none => rw [q3] at p2; exact False.elim p2
            | some R3 =>
              rw [q3] at p2
              obtain ⟨hz, q3⟩ := guardO_some q3
              obtain ⟨hm, e3⟩ := guardO_some q3
              cases e3
              obtain ⟨dx, ws, h1, ra⟩ : ∃ dx vs, H2 (α2 k) = some (.ins ((f.k N).cl c) dx vs) ∧ RepF (f.k N) α2 R2.length H2 fs vs := S2.obj k _ q
              refine ⟨α2 k, f.c.cl c, dx, ws, e, h1, hj.1, hj.2, ra.length ▸ of_decide_eq_true hz, ?_⟩
              have hh : hbO (.ins c (putFT nm tx fs)) ≤ max (hbO (.ins c fs)) (hbs [tx]) := by rw [hbs_one]; exact hbF_put nm tx fs
              have L : Later f.n0 α2 R2 H2 α2 (R2.set k (.ins c (putFT nm tx fs))) (upd H2 (α2 k) (.ins (f.c.cl c) dx (putF nm x ws))) := Later.set S2 q hh hm
              have S' : SR (f.k N) α2 (R2.set k (.ins c (putFT nm tx fs))) (upd H2 (α2 k) (.ins (f.c.cl c) dx (putF nm x ws))) := SR.set (n0 := f.n0) S2 q hh hm ⟨dx, _, upd_same, by
                have := (RepF.put rx (f := nm) ra).later L
                rw [List.length_set] at this; exact this⟩
              exact p2 _ _ _ L S' ⟨hs2.later L, rfl, fun _ _ => rfl⟩
          | no => rw [q2] at p2; exact False.elim p2
          | prop g => rw [q2] at p2; exact False.elim p2
        | lst _ => exact False.elim p2
        | dct _ => exact False.elim p2
    | _ => exact False.elim p
end
end Pv

/-! E16: defs by their bodies. -/
namespace Pv
open PySem PySem.Spec PyProof.Rows L2
theorem start_ok {c : Kc} {α : Nat → Addr} {n : Nat} {H : Hp} {ts : List TV} {vs : List V} (r : Reps c α n H ts vs) (m : Nat) (N : List Str) (hN : N.length = m) : StR c α n H (ts.map some ++ List.replicate (m - ts.length) none) (L2.start N vs) := by
  have hl := r.length
  refine ⟨?_, fun i x h => ?_⟩
  · unfold L2.start
    simp [hl, hN]
  · unfold L2.start
    by_cases hi : i < ts.length
    · rw [List.getElem?_append_left (by simpa using hi), List.getElem?_map] at h
      cases q : ts[i]? with
      | none => rw [q] at h; cases h
      | some t =>
        rw [q] at h; cases h
        obtain ⟨v, h1, h2⟩ := r.get q
        refine ⟨v, ?_, h2⟩
        rw [List.getElem?_append_left (by simpa using hl ▸ hi), List.getElem?_map, h1]
        rfl
    · rw [List.getElem?_append_right (by simpa using hi), List.getElem?_replicate] at h
      split at h <;> cases h
/-- the body's evaluation, from the call's -/
theorem body_of {c : Kc} {G : Ga} {F : Fn} {n0 : Nat} {N : Addr → Prop} {α : Nat → Addr} {R : Rs} {H : Hp} {ts : List TV} {vs : List V} {Q : VK} {E : Ex0} {Nm : List Str} (hn : n0 ≤ R.length) (S : SR (c.w N) α R H) (r : Reps (c.w N) α R.length H ts vs) (hN : Nm.length = F.slots)
    (p : Post (c.w N) (Rep (c.w N)) n0 α R H (runFn G F n0 ts R) Q E) : ∃ b, tSs ⟨c, G, b, fun k d _ H' => E k d H'⟩ F.body { nx := fun _ H' => Q .non H', rt := Q } (L2.start Nm vs) H := by
  unfold runFn at p
  obtain ⟨hz, p⟩ := Post.guard p
  have hl := of_decide_eq_true hz
  have st := start_ok r F.slots Nm hN
  cases hk : F.endk with
  | keep =>
    rw [hk] at p
    refine ⟨n0, N, _, α, R, hn, st, S, (Post.bind (rel := RelF (c.w N)) p).mono ?_⟩
    rintro g H1 ⟨α1, R1, b, L1, S1, rf, p⟩
    cases rf with
    | nx hs => exact (show Post (c.w N) (Rep (c.w N)) n0 α1 R1 H1 (.ok .non R1) Q E from p).ok S1 .non
    | @rt σ6 t v r1 => exact (show Post (c.w N) (Rep (c.w N)) n0 α1 R1 H1 (.ok t R1) Q E from p).ok S1 r1
    | bk hs => exact False.elim p
    | ct hs => exact False.elim p
  | tree =>
    rw [hk] at p
    refine ⟨R.length, N, _, α, R, Nat.le_refl _, st, S, ?_⟩
    show Post (c.w N) (RelF (c.w N)) R.length α R H (evSs G R.length F.body (ts.map some ++ List.replicate (F.slots - ts.length) none) R) _ _
    cases q : evSs G R.length F.body (ts.map some ++ List.replicate (F.slots - ts.length) none) R with
    | no =>
      have p2 : Post (c.w N) (Rep (c.w N)) n0 α R H ((evSs G R.length F.body (ts.map some ++ List.replicate (F.slots - ts.length) none) R).bind _) Q E := p
      rw [q] at p2; exact False.elim p2
    | exc k fs R1 =>
      have p2 : Post (c.w N) (Rep (c.w N)) n0 α R H ((evSs G R.length F.body (ts.map some ++ List.replicate (F.slots - ts.length) none) R).bind _) Q E := p
      rw [q] at p2
      exact fun α1 H1 d fs' L1 S1 hd hr => p2 α1 H1 d fs' (L1.weak hn) S1 hd hr
    | ok b R1 =>
      have p2 : Post (c.w N) (Rep (c.w N)) n0 α R H ((evSs G R.length F.body (ts.map some ++ List.replicate (F.slots - ts.length) none) R).bind _) Q E := p
      rw [q] at p2
      intro α1 H1 g L1 S1 rf
      cases rf with
      | nx hs => exact settle_ok hn L1 S1 .non S (show Post (c.w N) (Rep (c.w N)) n0 α R H (settle R.length .non R1) Q E from p2)
      | @rt σ6 t v r1 => exact settle_ok hn L1 S1 r1 S (show Post (c.w N) (Rep (c.w N)) n0 α R H (settle R.length t R1) Q E from p2)
      | bk hs => exact False.elim p2
      | ct hs => exact False.elim p2
  | root =>
    rw [hk] at p
    refine ⟨R.length, N, _, α, R, Nat.le_refl _, st, S, ?_⟩
    show Post (c.w N) (RelF (c.w N)) R.length α R H (evSs G R.length F.body (ts.map some ++ List.replicate (F.slots - ts.length) none) R) _ _
    cases q : evSs G R.length F.body (ts.map some ++ List.replicate (F.slots - ts.length) none) R with
    | no =>
      have p2 : Post (c.w N) (Rep (c.w N)) n0 α R H ((evSs G R.length F.body (ts.map some ++ List.replicate (F.slots - ts.length) none) R).bind _) Q E := p
      rw [q] at p2; exact False.elim p2
    | exc k fs R1 =>
      have p2 : Post (c.w N) (Rep (c.w N)) n0 α R H ((evSs G R.length F.body (ts.map some ++ List.replicate (F.slots - ts.length) none) R).bind _) Q E := p
      rw [q] at p2
      exact fun α1 H1 d fs' L1 S1 hd hr => p2 α1 H1 d fs' (L1.weak hn) S1 hd hr
    | ok b R1 =>
      have p2 : Post (c.w N) (Rep (c.w N)) n0 α R H ((evSs G R.length F.body (ts.map some ++ List.replicate (F.slots - ts.length) none) R).bind _) Q E := p
      rw [q] at p2
      intro α1 H1 g L1 S1 rf
      cases rf with
      | nx hs => exact handOn_ok hn L1 S1 .non S (show Post (c.w N) (Rep (c.w N)) n0 α R H (handOn R.length .non R1) Q E from p2)
      | @rt σ6 t v r1 => exact handOn_ok hn L1 S1 r1 S (show Post (c.w N) (Rep (c.w N)) n0 α R H (handOn R.length t R1) Q E from p2)
      | bk hs => exact False.elim p2
      | ct hs => exact False.elim p2
theorem fnCode_guard {f : Addr} {args : Args} {A : Around} {env : Env} : (A.deeper env).guards = A.guards := rfl
/-- the context of a body -/
structure Bod (k : Nat) (c : Kc) (G : Ga) (f : Cf) (X : Cx) : Prop where
  fc : f.c = c
  fG : f.G = G
  xo : Xo f.c X
  room : Room k X.A
  gd : X.A.guards = some []
  tk : Takes X (wOf f)
  fl : Flat f
/-- THE RULE for a def -/
theorem fnG_of {P : Program} {w : World} {K : PySem.W.Frag} {mg : Str → Option Value} {base : Heap} {k : Nat} {fa : Addr} {name qual : Str} {params : Arguments} {body : List Stmt} {scope : Scope} {dV kV doc pm cdv ct oc : Value} {an od : Option Addr}
    {osl : Array (Option Value)} {N ps : List Str} {c : Kc} {G : Ga} {F : Fn} (lk : K.lookup fa = some ⟨oc, od, .func (PySem.W.fnOf name qual params body scope dV kV doc pm an cdv ct), osl⟩) (hcd : PySem.W.codeIn K cdv qual = true) (S : FnScope N ps scope)
    (hK : K = c.K) (hnp : F.np = ps.length) (hsl : N.length = F.slots)
    (hbody : ∀ (f : Cf) (A : Around) (outer : List Env) (s : Shared) (H : Hp) (E : XK), Bod k c G f (cxOf (CX P w) P w K mg base N qual scope fa cdv A outer s H E) →
      PassesOwn (model P w) (cxOf (CX P w) P w K mg base N qual scope fa cdv A outer s H E).A (cxOf (CX P w) P w K mg base N qual scope fa cdv A outer s H E).env (cxOf (CX P w) P w K mg base N qual scope fa cdv A outer s H E).xe →
      PSs (cxOf (CX P w) P w K mg base N qual scope fa cdv A outer s H E) body (tSs f F.body)) :
    FnG P w K mg base (k + 1) fa (PySem.W.fnOf name qual params body scope dV kV doc pm an cdv ct) ps (spC c fun n0 ts R => runFn G F n0 ts R) := by
  have len : ∀ vs H Q E, spC c (fun n0 ts R => runFn G F n0 ts R) vs H Q E → vs.length = ps.length := by
    rintro vs H Q E ⟨n0, N', α, R, ts, hn, S', r, p⟩
    unfold runFn at p
    obtain ⟨hz, p⟩ := Post.guard p
    rw [← r.length, of_decide_eq_true hz, hnp]
  refine ⟨len, fun A outer s H args us vs Q E hr hgd e0 hb r hsp => ?_⟩
  have hl := len _ _ _ _ hsp
  have KX : K.In s.heap := e0.mod.kin.keeps fun b o e => (e0.bs b o e).1
  have lim : s.heap.NoLimit := e0.mod.nolimit.keeps fun b o e => (e0.bs b o e).1
  have hkind : ∀ y ∈ ps.zip us, scope.names.lookup y.1 = some .local ∨ (scope.names.lookup y.1 = some .cell ∧ ((cellsFrom (s.heap.objs.size + 1) scope.names []).lookup y.1).isSome = true) := fun ⟨n, v⟩ hy => by
    rcases S.par n (List.of_mem_zip hy).1 with q | q
    · exact .inl q
    · exact .inr ⟨q, PySem.W.cellsFrom_some _ _ _ (.inl q)⟩
  refine codeAny_call_function hr.depth (KX _ _ lk) rfl S.co S.gen rfl (PySem.W.codeRec_of KX hcd) (hb _ _ _ _ ?_)
  refine wpAny_newFunctionEnv_cells S.kind hkind fun env he s1 x => ?_
  subst he
  refine ⟨lim.keeps x.toInCall.keep, codeAny_func ?_⟩
  have I : L2.Inv (cxOf (CX P w) P w K mg base N qual scope fa cdv A outer s H E) [] (L2.start N vs) H s1 := inv_start S hr.hd e0 hl r x
  obtain ⟨n0, N', α, R, ts, hn, S', rr, p⟩ := hsp
  obtain ⟨b, hq⟩ := body_of (Nm := N) hn S' rr hsl p
  have hrd : Room k (A.deeper (envOfC qual scope s.heap.objs.size fa cdv)) := hr.deeper _
  have B : Bod k c G ⟨c, G, b, fun k d _ H' => E (.ref (c.cl k)) (some d) H'⟩ (cxOf (CX P w) P w K mg base N qual scope fa cdv A outer s H E) := by
    refine ⟨rfl, rfl, ⟨hK, rfl, ?_, hgd⟩, hrd, hgd, ?_, fun _ _ _ _ _ h => h⟩
    · have := hrd.un
      show (A.deeper (envOfC qual scope s.heap.objs.size fa cdv)).units + 128 < cLine
      omega
    · refine (takes_of (E := E) rfl rfl rfl rfl).imp ?_
      rintro cls d σ H' ⟨k', dd, rfl, rfl, h⟩
      exact h
  refine wpAny_mono ((hbody _ A outer s H E B (passes_of rfl)).run [] s1 (L2.start N vs) H _ I hq) (fun fl s' hs => ?_) fun e s' hs => hs
  have fin : ∀ {σ' : L2.St} {H' : Hp} {v : V} {u : Value}, L2.Inv (cxOf (CX P w) P w K mg base N qual scope fa cdv A outer s H E) [] σ' H' s' → RelV v u → Q v H' → CE outer P w H s Q u s' :=
    fun {σ' H' v u} J rv q => ⟨v, H', J.os, J.bare, J.base, J.hok, rv, q⟩
  cases fl with
  | ret u =>
    obtain ⟨v, σ', H', J, rv, q⟩ := hs
    exact fin J rv q
  | next =>
    obtain ⟨σ', H', J, q⟩ := hs
    exact fin (v := V.non) (u := Value.none) J rfl q
  | brk =>
    obtain ⟨_, _, _, q⟩ := hs
    exact False.elim q
  | cont =>
    obtain ⟨_, _, _, q⟩ := hs
    exact False.elim q
end Pv

/-! E17: calls with keywords; the end of a law. -/
namespace Pv
open PySem PySem.Spec PyProof.Rows L2
theorem permL_reps {c : Kc} {α : Nat → Addr} {n : Nat} {H : Hp} {ts : List TV} {vs : List V} (r : Reps c α n H ts vs) : ∀ {perm : List Nat} {ys : List TV}, permL ts perm = some ys → ∃ ws, permL vs perm = some ws ∧ Reps c α n H ys ws
  | [], _, h => by cases h; exact ⟨[], rfl, .nil⟩
  | i :: is, ys, h => by
    have h' := h
    rw [permL] at h'
    cases q : ts[i]? with
    | none => rw [q] at h'; cases h'
    | some t =>
      cases q2 : permL ts is with
      | none => rw [q, q2] at h'; cases h'
      | some zs =>
        rw [q, q2] at h'; cases h'
        obtain ⟨ws, h1, h2⟩ := permL_reps r q2
        obtain ⟨v, h3, h4⟩ := r.get q
        refine ⟨v :: ws, ?_, .cons h4 h2⟩
        rw [permL, h3, h1]
theorem permL_vals {vs : List V} {us : List Value} (r : Vals vs us) : ∀ {perm : List Nat} {ys : List V}, permL vs perm = some ys → ∃ ws, permL us perm = some ws ∧ Vals ys ws
  | [], _, h => by cases h; exact ⟨[], rfl, .nil⟩
  | i :: is, ys, h => by
    have h' := h
    rw [permL] at h'
    cases q : vs[i]? with
    | none => rw [q] at h'; cases h'
    | some t =>
      cases q2 : permL vs is with
      | none => rw [q, q2] at h'; cases h'
      | some zs =>
        rw [q, q2] at h'; cases h'
        obtain ⟨ws, h1, h2⟩ := permL_vals r q2
        obtain ⟨v, h3, h4⟩ := r.get q
        refine ⟨v :: ws, ?_, .cons h4 h2⟩
        rw [permL, h3, h1]
/-- how n values by places and keywords ks bind -/
def KBP (K : PySem.W.Frag) (fd : FuncData) (ps : List Str) (n : Nat) (ks : List Str) (perm : List Nat) : Prop := ∀ (s : Shared) (us ws gs : List Value), K.In s.heap → us.length = n → ws.length = ks.length → permL (us ++ ws) perm = some gs → BindsTo s fd ⟨us, ks.zip ws⟩ (ps.zip gs)
section
variable {f : Cf} {X : Cx} {a b d e : Expr} {es : List Expr} {ia ib id ie : Ex} {ies iks : Exs} {pos : Pos} {σV : L2.St} {H : Hp} {kws : List Keyword} {ks : List Str}
def Exs.len : Exs → Nat
  | .nil => 0
  | .cons _ es => Exs.len es + 1
theorem evs_len {G : Ga} {n0 : Nat} : ∀ {es : Exs} {σ : Slots} {R R1 : Rs} {vs : List TV}, evs G n0 es σ R = .ok vs R1 → vs.length = es.len
  | .nil, σ, R, R1, vs, h => by rw [evs] at h; cases h; rfl
  | .cons e es, σ, R, R1, vs, h => by
    rw [evs] at h
    cases q : evE G n0 e σ R with
    | ok x R2 =>
      rw [q] at h
      simp only [Rz.bind_ok] at h
      cases q2 : evs G n0 es σ R2 with
      | ok xs R3 =>
        rw [q2] at h
        cases h
        show xs.length + 1 = _
        rw [evs_len q2] <;> rfl
      | exc _ _ _ => rw [q2] at h; cases h
      | no => rw [q2] at h; cases h
    | exc _ _ _ => rw [q] at h; cases h
    | no => rw [q] at h; cases h
/-- a call by keywords alone -/
theorem q_callk0 {k i : Nat} {g : Addr} {fd : FuncData} {ps : List Str} {perm : List Nat} {x : Str} {p : Pos} (F : FnG X.prog X.w X.K X.mg X.base k g fd ps (spC f.c fun n0 ts R => f.G.call n0 i ts R)) (hr : Room k X.A) (hgd : X.A.guards = some []) (tk : Takes X (wOf f))
    (hg : Gl X x) (hm : X.mg x = some (.ref g)) (hk : PySem.W.keepIn X.K (.ref g) = true) (hb : KBP X.K fd ps 0 ks perm) (hkw : PK X kws (tA f iks)) (hlen : iks.len = ks.length)
    (hall : (backToKw pos (keywordEach kws X.env)).all (·.1.isSome) = true) (hks : (backToKw pos (keywordEach kws X.env)).filterMap (·.1) = ks) (hdb : (x == ("__debug__" : Str)) = false)
    (hpl : ((backTo pos (starEach [] X.env)).any (·.1) || (backToKw pos (keywordEach kws X.env)).any (·.1.isNone)) = false) :
    PE X (.Call (.Name x p) [] kws pos) (tE f (.callk i .nil iks perm)) := by
  refine ⟨fun pins s σV H Q I h => ?_⟩
  obtain ⟨N, σ, α, R, hn, hs, S, p0⟩ := h
  have e1 : evE f.G f.n0 (.callk i .nil iks perm) σ R = (evs f.G f.n0 iks σ R).bind fun zs R2 => match permT ([] ++ zs) perm with
    | some us => f.G.call f.n0 i us R2
    | none => .no := by rw [evE, evs] <;> rfl
  rw [e1] at p0
  have hlz : ∀ vs H1, Mid (f.k N) (Reps (f.k N)) (Rep (f.k N)) f.n0 α R H (fun zs R2 => match permT ([] ++ zs) perm with
    | some us => f.G.call f.n0 i us R2
    | none => .no) Q (f.Eat σV) vs H1 → True := fun _ _ _ => True.intro
  -- the keywords' values are as many as their names
  have p1 : Post (f.k N) (Reps (f.k N)) f.n0 α R H (evs f.G f.n0 iks σ R) (fun vs H1 => vs.length = ks.length ∧ Mid (f.k N) (Reps (f.k N)) (Rep (f.k N)) f.n0 α R H (fun zs R2 => match permT ([] ++ zs) perm with
    | some us => f.G.call f.n0 i us R2
    | none => .no) Q (f.Eat σV) vs H1) (f.Eat σV) := by
    have p2 := Post.bind (rel := Reps (f.k N)) p0
    cases q : evs f.G f.n0 iks σ R with
    | ok vs R1 =>
      rw [q] at p2
      intro α1 H1 g L1 S1 r1
      refine ⟨?_, p2 α1 H1 g L1 S1 r1⟩
      rw [← r1.length, evs_len q, hlen]
    | exc _ _ _ => rw [q] at p2; exact p2
    | no => rw [q] at p2; exact p2
  refine wpAny_Call_Name_kw (ld_glob I hg hm ?_ hdb)
  refine PySem.W.callWith_KW0 (h₀ := X.base) I.ok.mod.kin hk hall ?_ hpl
  refine thn (hkw.run pos pins s σV H _ I ⟨N, σ, α, R, hn, hs, S, p1⟩) fun ws s2 ⟨zs, H2, I2, rz, hl, α2, R2, ts, L2', S2, r2, p2⟩ => ⟨I2.kIn, ?_⟩
  rw [hks]
  try dsimp only at p2
  cases q : permT ([] ++ ts) perm with
  | none => rw [q] at p2; exact False.elim p2
  | some ys =>
    rw [q] at p2
    obtain ⟨vs, h1, h2⟩ := permL_reps (ts := [] ++ ts) (vs := [] ++ zs) r2 q
    obtain ⟨gs, h3, h4⟩ := permL_vals (vs := [] ++ zs) (us := [] ++ ws) rz h1
    have b := hb s2 [] ws gs I2.kIn rfl (by rw [← rz.length]; exact hl) h3
    refine wpAny_call (codeAny_mono (F.run X.A X.stack s2 H2 ⟨[], ks.zip ws⟩ gs vs Q (WE (wOf f) σV) hr hgd I2.env0 b h4 ⟨f.n0, N, α2, R2, ys, Nat.le_trans hn L2'.len, S2, h2, p2.exc fun k d H' h => wE_of h⟩) fun r s' hq => ?_)
    cases r with
    | error e => exact passAt tk σV pins H2 s2 e s' I2 hq
    | ok fl =>
      cases fl with
      | ret u => exact I2.after hq
      | next => exact False.elim hq
      | brk => exact False.elim hq
      | cont => exact False.elim hq
end
/-! ### the end -/
theorem klst_rep {c : Kc} {α : Nat → Addr} {n : Nat} {H : Hp} {a : Addr} {ns : List Int} (hO : Only H) (hS : SqL c.K H a (ns.map V.int)) : Rep c α n H (.klst (ns.map TV.int)) (.ref a) → True := fun _ => True.intro
theorem ints_reps {c : Kc} {α : Nat → Addr} {n : Nat} {H : Hp} : ∀ ns : List Int, Reps c α n H (ns.map TV.int) (ns.map V.int)
  | [] => .nil
  | n :: ns => .cons (.int n) (ints_reps ns)
theorem script_ok {c : Kc} {α : Nat → Addr} {H : Hp} {a : Addr} {ns : List Int} (hN : ∀ a, ¬ c.N a) (hO : Only H) (hS : SqL c.K H a (ns.map V.int)) : Rep c α 0 H (.klst (ns.map TV.int)) (.ref a) := by
  have hb : ∀ b, ¬ Bad c α 0 b := fun b z => by
    rcases z with ⟨k, hk, _⟩ | z
    · exact absurd hk (Nat.not_lt_zero _)
    · exact hN _ z
  rcases hS with (h | ⟨o, h⟩) | h
  · rcases hO a with z | ⟨o, xs, z⟩
    · rw [h] at z; cases z
    · rw [h] at z; cases z
  · exact .klstF h (hb a) (ints_reps ns)
  · exact .klstK h (ints_reps ns)
theorem empty_SR {c : Kc} {α : Nat → Addr} {H : Hp} (hN : ∀ a, ¬ c.N a) : SR c α [] H :=
  ⟨fun a z => absurd z (hN a), fun k hk => absurd hk (Nat.not_lt_zero _), (fun k o h => by rw [List.getElem?_nil] at h; cases h), fun j k hj => absurd hj (Nat.not_lt_zero _)⟩
/-- the law's promise, from the evaluator's answer -/
theorem law_sp {c : Kc} {cf : Nat → List TV → Rs → Rz TV} {H : Hp} {a : Addr} {ns : List Int} (hN : ∀ a, ¬ c.N a) (hO : Only H) (hS : SqL c.K H a (ns.map V.int)) {R' : Rs} (h : cf 0 [.klst (ns.map TV.int)] [] = .ok (.bl true) R') :
    spC c cf [.ref a] H (fun v _ => v = .bl true) fun _ _ _ => False := by
  refine ⟨0, c.N, fun _ => 0, [], [.klst (ns.map TV.int)], Nat.le_refl _, empty_SR hN, .cons (script_ok hN hO hS) .nil, ?_⟩
  rw [h]
  intro α1 H1 g L1 S1 r1
  exact bl_inv r1
theorem law_callG {P : Program} {w : World} {K : PySem.W.Frag} {mg mb : Str → Option Value} {k : Nat} {fa a : Addr} {fd : FuncData} {x : Str} {sp : Sp} {s₁ : Shared} {vs : List Value} {ns : List Int}
    (KX : K.In s₁.heap) (hns : s₁.heap.Ns mainGlobals mg) (hb : s₁.heap.Ns builtinsNs mb) (hbb : ∀ x : Str, x ≠ "__name__" → mb x = bootBuiltins x) (hlim : s₁.heap.NoLimit) (hg : s₁.gens = #[])
    (ha : s₁.heap.get? a = some { cls := .type "list", data := .seq vs.toArray }) (hi : IntsAre vs ns) (hl : ns.length ≤ sizeLine) (hr : Room k callerA)
    (F : ∀ base : Heap, K.In base → base.Ns mainGlobals mg → FnG P w K mg base k fa fd [x] sp) (hbind : ∀ (s : Shared) (u : Value), BindsTo s fd ⟨[u], []⟩ [(x, u)])
    (hsp : ∀ H : Hp, Only H → SqL K H a (ns.map V.int) → sp [.ref a] H (fun v _ => v = .bl true) fun _ _ _ => False) :
    codeAny (model P w) callerA (.call (.ref fa) ⟨[.ref a], []⟩) (fun r s' => r = .ok (.ret (.bool true)) ∧ OldK s₁.heap s'.heap ∧ s'.os = s₁.os ∧ AllBare s'.gens) s₁ := by
  have Fk : ∀ base : Heap, K.In base → base.Ns mainGlobals mg → ∀ (outer : List Env) (s : Shared) (H : Hp) (args : Args) (us : List Value) (vs : List V) (Q : VK) (E : XK), Room k callerA → Env0 P w K mg base callerA outer s H → BindsTo s fd args ([x].zip us) → Vals vs us → sp vs H Q E →
    codeAny (model P w) callerA (.call (.ref fa) args) (CR (CX P w) outer P w H s Q E) s := fun base h1 h2 outer s H args us vs Q E hr e0 hb r hsp => (F base h1 h2).run callerA outer s H args us vs Q E hr rfl e0 hb r hsp
  have rv := vals_ints hi
  have lenV := hi.length
  have core : ∀ H : Hp, Only H → SqL K H a (ns.map V.int) → HOk P w H s₁.heap → (∀ b, H b ≠ none → b = a) → (H a ≠ none → K.lookup a = none) →
      codeAny (model P w) callerA (.call (.ref fa) ⟨[.ref a], []⟩) (fun r s' => r = .ok (.ret (.bool true)) ∧ OldK s₁.heap s'.heap ∧ s'.os = s₁.os ∧ AllBare s'.gens) s₁ := by
    intro H hO hS hok hA hK
    have base_of : ∀ {b : Addr} {o : Obj}, s₁.heap.get? b = some o → H b = none → (hidT s₁.heap H).get? b = some o := fun e n => hidT_get e n
    have noA : ∀ {b : Addr} {o : Obj} {es : Array DictEntry} {ep : Nat}, s₁.heap.get? b = some o → o.data = .dict es ep → H b = none := fun {b o es ep} e d => by
      cases q : H b with
      | none => rfl
      | some u =>
        have e' : b = a := hA b (by rw [q]; simp)
        subst e'
        rw [ha] at e; cases e
        have d' : Data.seq vs.toArray _ = Data.dict es ep := d
        cases d'
    have nsK : ∀ {b : Addr} {m : Str → Option Value}, s₁.heap.Ns b m → (hidT s₁.heap H).Ns b m := fun {b m} ⟨o, es, ep, e, d, r⟩ => ⟨o, es, ep, base_of e (noA e d), d, r⟩
    have hKb : K.In (hidT s₁.heap H) := fun b o e => base_of (KX b o e) (by
      cases q : H b with
      | none => rfl
      | some u =>
        have e' : b = a := hA b (by rw [q]; simp)
        subst e'
        rw [hK (by rw [q]; simp)] at e; cases e)
    have hM : Mod K mg (hidT s₁.heap H) := ⟨hKb, nsK hns, ⟨mb, nsK hb, hbb⟩, let ⟨mc, h1, h2⟩ := hlim; ⟨mc, nsK h1, h2⟩⟩
    have e0 : Env0 P w K mg (hidT s₁.heap H) callerA [] s₁ H := ⟨rfl, hM, fun b o e => of_hidT e, Nat.le_of_eq (hidT_size _ _), trivial, fun b hb => absurd (show b ∈ ([] : List Addr) from hb) (by simp), hok, .of_eq hg⟩
    refine codeAny_mono (Fk _ hKb (nsK hns) [] s₁ H ⟨[.ref a], []⟩ [.ref a] [.ref a] _ _ hr e0 (hbind s₁ (.ref a)) (.cons rfl .nil) (hsp H hO hS)) fun r s' h => ?_
    cases r with
    | error e =>
      obtain ⟨_, _, _, _, _, _, _, _, _, _, _, _, z⟩ := (show CX P w [] H s₁ _ e s' from h)
      exact z.elim
    | ok fl =>
      cases fl with
      | next => exact False.elim h
      | brk => exact False.elim h
      | cont => exact False.elim h
      | ret u =>
        obtain ⟨v, H', os, bare, un, hok', r', q⟩ := h
        have q' : v = .bl true := q
        subst q'
        obtain rfl : u = Value.bool true := r'
        refine ⟨rfl, OldK.of_keep fun b o e => ?_, os, bare⟩
        cases q : H b with
        | none => exact un.keep b o e q (by intro z; exact absurd (show b ∈ ([] : List Addr) from z) (by simp)) (by simp)
        | some u =>
          rcases hO b with z | ⟨ob, xs, z⟩
          · rw [q] at z; cases z
          · have z2 := un.frzs b ob _ z
            obtain ⟨e1, _⟩ := hok b _ z
            obtain ⟨e2, _⟩ := hok' b _ z2
            rw [e] at e1; cases e1
            exact e2
  cases hk : K.lookup a with
  | some o =>
    have e := KX a o hk
    rw [ha] at e
    cases e
    refine core (fun _ => none) (fun _ => .inl rfl) (.inr ⟨_, vs.toArray, _, hk, rfl, rfl, rfl, by rw [List.size_toArray, lenV]; exact hl, by simpa using rv⟩) (fun b u z => by have z' : (none : Option HO) = some u := z; cases z') (fun b z => absurd rfl z) fun z => absurd rfl z
  | none =>
    refine core (fun b => if b = a then some (.frz { cls := .type "list", data := .seq vs.toArray } (.lst (ns.map V.int))) else none) (fun b => ?_) (.inl (.inr ⟨{ cls := .type "list", data := .seq vs.toArray }, if_pos rfl⟩)) (fun b u z => ?_) (fun b z => ?_) fun _ => hk
    · by_cases hb : b = a
      · exact .inr ⟨_, _, if_pos hb⟩
      · exact .inl (if_neg hb)
    · by_cases hb : b = a
      · have z' := (if_pos hb).symm.trans z
        cases z'
        subst hb
        exact ⟨ha, by rw [List.length_map]; exact hl, vs, _, rv, ha⟩
      · have z' := (if_neg hb).symm.trans z
        cases z'
    · by_cases hb : b = a
      · exact hb
      · exact absurd (if_neg hb) z
/-- the goal that k_head leaves, from the evaluator's answers -/
theorem walk_G {l : PySem.W.OpenLaw} {n k : Nat} {q : Program} {loose : List Str} {XP : (Str → Option Value) → Heap → Prop} {YP : World → Heap → Prop} {d : DefRec} {K : Params → PySem.W.Frag} {x : Str} {cf : Nat → List TV → Rs → Rz TV}
    (hn : l.most = some n) (hn2 : n ≤ sizeLine) (hdf : d.params.defaults = []) (hr : Room k callerA)
    (hY : ∀ (w : World) (h : Heap), YP w h → (K w.params).In h)
    (F : ∀ (w : World) (mg : Str → Option Value) (fa : Addr) (h : Heap), (K w.params).In h → h.Ns mainGlobals mg → mg d.name = some (.ref fa) →
      ∃ (fd : FuncData) (cl : Nat → Addr), (∀ (s : Shared) (u : Value), BindsTo s fd ⟨[u], []⟩ [(x, u)]) ∧
        ∀ base : Heap, (K w.params).In base → base.Ns mainGlobals mg → FnG l.prog w (K w.params) mg base k fa fd [x] (spC { K := K w.params, cl := cl } cf))
    (hsp : ∀ ns : List Int, ns.length ≤ n → ∃ R', cf 0 [.klst (ns.map TV.int)] [] = .ok (.bl true) R') :
    PySem.W.WalkO q loose XP YP l.row.toRowW d [] (fun f vs => PySem.call f vs) := by
  refine Att.attach_call hn hdf fun w s₀ s₁ mg mb fa o pm cd doc a vs ns G Y ho hd hcd hmg hobj hints hlen hg => ?_
  have KX := hY w _ Y
  obtain ⟨fd, cl, hb, hF⟩ := F w mg fa _ KX G.T.g hmg
  obtain ⟨R', hq⟩ := hsp ns hlen
  exact law_callG KX G.T.g G.T.b G.T.builtins G.T.nolimit hg hobj hints (Nat.le_trans hlen hn2) hr hF hb fun H hO hS => law_sp (c := { K := K w.params, cl := cl }) (fun _ z => z) hO hS hq
end Pv

/-! E18: what a law's printed text leans on. -/
namespace Pv
open PySem PySem.Spec PyProof.Rows L2
def gOf (P : Pg) (d : Nat) : Ga := ⟨callD P d, P.init, P.meth, P.fldk, P.subc⟩
theorem FnG.no {P : Program} {w : World} {K : PySem.W.Frag} {mg : Str → Option Value} {base : Heap} {k : Nat} {f : Addr} {fd : FuncData} {ps : List Str} {c : Kc} {cf : Nat → List TV → Rs → Rz TV} (h : ∀ n0 ts R, cf n0 ts R = .no) : FnG P w K mg base k f fd ps (spC c cf) :=
  ⟨fun vs H Q E ⟨n0, N, α, R, ts, hn, S, r, p⟩ => by rw [h] at p; exact False.elim p, fun A outer s H args us vs Q E hr hg e0 hb r ⟨n0, N, α, R, ts, hn, S, rr, p⟩ => by rw [h] at p; exact False.elim p⟩
theorem Bod.blk {k : Nat} {c : Kc} {G : Ga} {f : Cf} {X : Cx} (B : Bod k c G f X) (s : Shared) (H : Hp) (scope : Scope) (cenv : Env) (fp : List Addr) : Bod k c G f.nox (X.blk s H scope cenv fp) :=
  ⟨B.fc, B.fG, ⟨B.xo.K, B.xo.calm, B.xo.hu, B.xo.gd⟩, ⟨B.room.hd, B.room.dp, B.room.un⟩, B.gd, takes0.imp (fun _ _ _ _ ⟨_, _, _, _, z⟩ => z), fun _ _ _ _ _ z => z⟩
theorem Bod.fn {k j : Nat} {c : Kc} {G : Ga} {f : Cf} {X : Cx} {g : Addr} {fd : FuncData} {ps : List Str} {i : Nat} (B : Bod k c G f X) (F : FnG X.prog X.w X.K X.mg X.base j g fd ps (spC c fun n0 ts R => G.call n0 i ts R)) : FnG X.prog X.w X.K X.mg X.base j g fd ps (spC f.c fun n0 ts R => f.G.call n0 i ts R) := by
  rw [B.fc, B.fG]; exact F
theorem Bod.r0 {k : Nat} {c : Kc} {G : Ga} {f : Cf} {X : Cx} (B : Bod (k + 1) c G f X) : Room k X.A := B.room.mono (Nat.le_succ _)
theorem flx {f : Cf} : Flat f.nox := fun _ _ _ _ _ z => z
/-- facts of classes, whatever the frame -/
def cf0 (c : Kc) (G : Ga) : Cf := ⟨c, G, 0, fun _ _ _ _ => False⟩
theorem Bod.kd {k : Nat} {c : Kc} {G : Ga} {f : Cf} {X : Cx} {q : Kd} {u : Value} (B : Bod k c G f X) (h : KdOk (cf0 c G) X.K q u) : KdOk f X.K q u :=
  ⟨h.tag, fun j hj => by rw [B.fG] at hj ⊢; rw [B.fc]; exact h.own j hj⟩
theorem Bod.fld {k : Nat} {c : Kc} {G : Ga} {f : Cf} {X : Cx} {nm : Str} (B : Bod k c G f X) (h : FldOk (cf0 c G) X.K nm) : FldOk f X.K nm := fun j => by
  have := h j
  rw [B.fG, B.fc]; exact this
theorem Bod.ins {k : Nat} {c : Kc} {G : Ga} {f : Cf} {X : Cx} (B : Bod k c G f X) (h : ∀ j, (G.init j).isSome = true → InsOk X.K (c.cl j)) : ∀ j, (f.G.init j).isSome = true → InsOk X.K (f.c.cl j) := fun j hj => by
  rw [B.fG] at hj; rw [B.fc]; exact h j hj
theorem Bod.init {k j : Nat} {c : Kc} {G : Ga} {f : Cf} {X : Cx} {p : Nat × Bool} (B : Bod k c G f X) (h : G.init j = some p) : f.G.init j = some p := by rw [B.fG]; exact h
theorem Bod.mkc {k j : Nat} {c : Kc} {G : Ga} {f : Cf} {X : Cx} {g : Addr} (B : Bod k c G f X) (h : Mk X.K (c.cl j) g) : Mk X.K (f.c.cl j) g := by rw [B.fc]; exact h
theorem Bod.mgc {k j : Nat} {c : Kc} {G : Ga} {f : Cf} {X : Cx} {x : Str} (B : Bod k c G f X) (h : X.mg x = some (.ref (c.cl j))) : X.mg x = some (.ref (f.c.cl j)) := by rw [B.fc]; exact h
/-- the rule for a def, by its Fun -/
theorem fnG_fun {P : Program} {w : World} {K : PySem.W.Frag} {mg : Str → Option Value} {base : Heap} {k : Nat} {x qual : Str} {st : Stmt} {fa : Addr} {fd : FuncData} {N ps : List Str} {c : Kc} {G : Ga} {F : Fn} (U : Fun K x qual st fa fd) (S : FnScope N ps (defScope st))
    (hK : K = c.K) (hnp : F.np = ps.length) (hsl : N.length = F.slots)
    (hbody : ∀ (cdv : Value) (f : Cf) (A : Around) (outer : List Env) (s : Shared) (H : Hp) (E : XK), Bod (k + 1) c G f (cxOf (CX P w) P w K mg base N qual (defScope st) fa cdv A outer s H E) →
      PassesOwn (model P w) (cxOf (CX P w) P w K mg base N qual (defScope st) fa cdv A outer s H E).A (cxOf (CX P w) P w K mg base N qual (defScope st) fa cdv A outer s H E).env (cxOf (CX P w) P w K mg base N qual (defScope st) fa cdv A outer s H E).xe →
      PSs (cxOf (CX P w) P w K mg base N qual (defScope st) fa cdv A outer s H E) (defBody st) (tSs f F.body)) :
    FnG P w K mg base (k + 2) fa fd ps (spC c fun n0 ts R => runFn G F n0 ts R) := by
  obtain ⟨oc, od, kV, doc, pm, an, cdv, ct, osl, rfl, lk, hcd⟩ := U.ex
  exact fnG_of lk hcd S hK hnp hsl (hbody cdv)
theorem Fun.kbp {K : PySem.W.Frag} {x qual : Str} {st : Stmt} {f : Addr} {fd : FuncData} {ps ks : List Str} {n : Nat} {perm : List Nat} (F : Fun K x qual st f fd)
    (h : ∀ (kV doc pm : Value) (an : Option Addr) (cdv ct : Value) (us ws gs : List Value), us.length = n → ws.length = ks.length → permL (us ++ ws) perm = some gs →
      bindArgs (PySem.W.fnOf x qual (defArgs st) (defBody st) (defScope st) .none kV doc pm an cdv ct) ⟨us, ks.zip ws⟩ = pure (ps.zip gs)) : KBP K fd ps n ks perm := by
  obtain ⟨oc, od, kV, doc, pm, an, cdv, ct, osl, rfl, lk, hcd⟩ := F.ex
  exact fun s us ws gs _ h1 h2 h3 => .of_eq (h kV doc pm an cdv ct us ws gs h1 h2 h3)
theorem bo_len : bootBuiltins "len" = some (.builtin "len") := by decide +kernel
theorem bo_abs : bootBuiltins "abs" = some (.builtin "abs") := by decide +kernel
theorem bo_max : bootBuiltins "max" = some (.builtin "max") := by decide +kernel
theorem bo_min : bootBuiltins "min" = some (.builtin "min") := by decide +kernel
theorem bo_int : bootBuiltins "int" = some (.type "int") := by decide +kernel
theorem bo_repr : bootBuiltins "repr" = some (.builtin "repr") := by decide +kernel
theorem bo_divmod : bootBuiltins "divmod" = some (.builtin "divmod") := by decide +kernel
theorem bo_list : bootBuiltins "list" = some (.type "list") := by decide +kernel
theorem bo_tuple : bootBuiltins "tuple" = some (.type "tuple") := by decide +kernel
theorem bo_all : bootBuiltins "all" = some (.builtin "all") := by decide +kernel
theorem bo_any : bootBuiltins "any" = some (.builtin "any") := by decide +kernel
theorem bo_sum : bootBuiltins "sum" = some (.builtin "sum") := by decide +kernel
theorem bo_isinstance : bootBuiltins "isinstance" = some (.builtin "isinstance") := by decide +kernel
theorem bo_range : bootBuiltins "range" = some (.type "range") := by decide +kernel
theorem bo_enumerate : bootBuiltins "enumerate" = some (.type "enumerate") := by decide +kernel
theorem bo_zip : bootBuiltins "zip" = some (.type "zip") := by decide +kernel
theorem bo_bool : bootBuiltins "bool" = some (.type "bool") := by decide +kernel
theorem bo_str : bootBuiltins "str" = some (.type "str") := by decide +kernel
theorem bo_dict : bootBuiltins "dict" = some (.type "dict") := by decide +kernel
end Pv

/-! M2: list(zip(xs, ys)) of two lists. -/
namespace PySem
theorem zipF_no_len : typeLookup (.type "zip") "__len__" = pure none := by rw [typeLookup_type, builtinLookup_eq_fast]; kernel_rfl
theorem zipF_no_hint : typeLookup (.type "zip") "__length_hint__" = pure none := by rw [typeLookup_type, builtinLookup_eq_fast]; kernel_rfl
end PySem
namespace Pv
open PySem PySem.Spec PyProof.Rows L2
/-- the iterator's records at turn i; S: the list that is filled -/
structure ZAt (h : Heap) (z TI TO i1 i2 l1 l2 S : Addr) (xs ys : Array Value) (i : Nat) : Prop where
  ti : IsPair h TI (.ref i1) (.ref i2)
  h1 : h.IsListIter i1 l1 i
  h2 : h.IsListIter i2 l2 i
  e1 : h.IsList l1 xs
  e2 : h.IsList l2 ys
  to : ∃ o, h.get? TO = some o
  st : (IsZip h z TI TO .none ∧ ∃ a b, IsPair h TO a b) ∨ ∃ T f oT, IsZipHeld h z TI TO T f ∧ h.get? T = some oT ∧ T ≠ z ∧ T ≠ i1 ∧ T ≠ i2 ∧ T ≠ S
/-- .. and where the fresh list lies apart from them -/
structure ZSep (z TI TO i1 i2 l1 l2 S : Addr) : Prop where
  D : ZipApart z TI TO i1 i2 l1 l2
  sz : S ≠ z
  sTI : S ≠ TI
  sTO : S ≠ TO
  s1 : S ≠ i1
  s2 : S ≠ i2
  sl1 : S ≠ l1
  sl2 : S ≠ l2
theorem ZAt.keep {h h' : Heap} {z TI TO i1 i2 l1 l2 S : Addr} {xs ys : Array Value} {i : Nat} (Z : ZAt h z TI TO i1 i2 l1 l2 S xs ys i) (P : ZSep z TI TO i1 i2 l1 l2 S) (k : ∀ b o, b ≠ S → h.get? b = some o → h'.get? b = some o) : ZAt h' z TI TO i1 i2 l1 l2 S xs ys i := by
  refine ⟨k _ _ P.sTI.symm Z.ti, Z.h1.at fun o e => k _ o P.s1.symm e, Z.h2.at fun o e => k _ o P.s2.symm e, Z.e1.at fun o e => k _ o P.sl1.symm e, Z.e2.at fun o e => k _ o P.sl2.symm e, let ⟨o, e⟩ := Z.to; ⟨o, k _ o P.sTO.symm e⟩, ?_⟩
  rcases Z.st with ⟨hz, a, b, hTO⟩ | ⟨T, f, oT, hz, hT, r1, r2, r3, r4⟩
  · exact .inl ⟨k _ _ P.sz.symm hz, a, b, k _ _ P.sTO.symm hTO⟩
  · exact .inr ⟨T, f, oT, k _ _ P.sz.symm hz, k _ _ r4 hT, r1, r2, r3, r4⟩
section
variable {X : Cx} {pins : List (Addr × Obj)} {σ : L2.St} {z TI TO i1 i2 l1 l2 S : Addr} {xs ys : Array Value} {xv yv : List V}
/-- one turn of the iterator -/
theorem zip_turn {A : Around} {E : Value → Shared → Prop} {s : Shared} {H : Hp} {i : Nat} {Q : Option Value → Shared → Prop} (P : ZSep z TI TO i1 i2 l1 l2 S) (I : L2.Inv X pins σ H s) (Z : ZAt s.heap z TI TO i1 i2 l1 l2 S xs ys i) (hS : ∃ o, s.heap.get? S = some o)
    (hf : ∀ b ∈ [z, TI, TO, i1, i2], FpOk X pins H b) (rx : Vals xv xs.toList) (ry : Vals yv ys.toList) {x y : V} (hx : xv[i]? = some x) (hy : yv[i]? = some y)
    (h : ∀ T s', H T = none → T ≠ S → (∀ o, s.heap.get? S = some o → s'.heap.get? S = some o) → L2.Inv X pins σ (upd H T (.tup [x, y])) s' → ZAt s'.heap z TI TO i1 i2 l1 l2 S xs ys (i + 1) → (∀ b ∈ [z, TI, TO, i1, i2], FpOk X pins (upd H T (.tup [x, y])) b) → Q (some (.ref T)) s') :
    wpAny (model X.prog X.w) A (pyNext (.ref z)) Q E s := by
  obtain ⟨u, hu, ru⟩ := rx.get hx
  obtain ⟨u2, hu2, ru2⟩ := ry.get hy
  have D := P.D
  have ex : xs[i]? = some u := by rw [← Array.getElem?_toList]; exact hu
  have ey : ys[i]? = some u2 := by rw [← Array.getElem?_toList]; exact hu2
  have lt : ∀ {c o}, s.heap.get? c = some o → s.heap.objs.size ≠ c := fun e => Nat.ne_of_gt (Heap.lt_size e)
  have n1 : s.heap.objs.size ≠ i1 := let ⟨_, e, _⟩ := Z.h1; lt e
  have n2 : s.heap.objs.size ≠ i2 := let ⟨_, e, _⟩ := Z.h2; lt e
  have nS : s.heap.objs.size ≠ S := let ⟨_, e⟩ := hS; lt e
  have hfr : H s.heap.objs.size = none := I.hok.fresh (Nat.le_refl _)
  have small : ∀ b ∈ [z, TI, TO, i1, i2], b ≠ s.heap.objs.size := fun b hb => by
    obtain ⟨hTI, ⟨_, e1, _⟩, ⟨_, e2, _⟩, _, _, hto, st⟩ := Z
    have hz : ∃ o, s.heap.get? z = some o := by
      rcases st with ⟨hz, _⟩ | ⟨_, _, _, hz, _⟩ <;> exact ⟨_, hz⟩
    simp only [List.mem_cons, List.not_mem_nil, or_false] at hb
    rcases hb with rfl | rfl | rfl | rfl | rfl
    · obtain ⟨o, e⟩ := hz; exact Nat.ne_of_lt (Heap.lt_size e)
    · exact Nat.ne_of_lt (Heap.lt_size hTI)
    · obtain ⟨o, e⟩ := hto; exact Nat.ne_of_lt (Heap.lt_size e)
    · exact Nat.ne_of_lt (Heap.lt_size e1)
    · exact Nat.ne_of_lt (Heap.lt_size e2)
  have fin : ∀ h' : Heap, IsPair h' s.heap.objs.size u u2 → (∀ c o, c ≠ z → c ≠ TO → c ≠ i1 → c ≠ i2 → s.heap.get? c = some o → h'.get? c = some o) → ZAt h' z TI TO i1 i2 l1 l2 S xs ys (i + 1) → Q (some (.ref s.heap.objs.size)) { s with heap := h' } := fun h' a5 hk Z' => by
    have new : ObjOk X.prog X.w (upd H s.heap.objs.size (.tup [x, y])) h' s.heap.objs.size (.tup [x, y]) :=
      ⟨by show 2 ≤ sizeLine; decide, [u, u2], .cons ru (.cons ru2 .nil), ⟨_, a5, rfl, _, rfl⟩⟩
    refine h _ _ hfr nS (fun o e => hk S o P.sz P.sTO P.s1 P.s2 e) (I.turnedNew (t' := s.toks) (ch := [z, TI, TO, i1, i2]) (fun c o hc e => hk c o (fun q => hc (by simp [q])) (fun q => hc (by simp [q])) (fun q => hc (by simp [q])) (fun q => hc (by simp [q])) e) hf (Nat.le_refl _) new) Z' fun b hb => ?_
    have := hf b hb
    exact ⟨by rw [upd_ne (small b hb)]; exact this.1, this.2⟩
  rcases Z.st with ⟨hz, a, b, hTO⟩ | ⟨T, f, oT, hz, hT, r1, r2, r3, r4⟩
  · refine wpAny_pyNext_zip_item D hz Z.ti hTO Z.h1 Z.h2 Z.e1 Z.e2 ex ey fun h' a1 a2 a3 a4 a5 a6 hk => fin h' a5 hk ?_
    exact ⟨hk _ _ D.TIz D.TITO D.TIi1 D.TIi2 Z.ti, a3, a4, Z.e1.at fun o e => hk _ o D.l1z D.l1TO D.l1i1 D.l1i2 e, Z.e2.at fun o e => hk _ o D.l2z D.l2TO D.l2i1 D.l2i2 e, ⟨_, a2⟩, .inr ⟨s.heap.objs.size, false, _, a1, a5, lt hz, n1, n2, nS⟩⟩
  · refine wpAny_pyNext_zip_item_held D hz hT Z.ti Z.h1 Z.h2 Z.e1 Z.e2 ex ey fun h' a1 a3 a4 a5 a6 hk => fin h' a5 (fun c o c1 _ c2 c3 e => hk c o c1 c2 c3 e) ?_
    exact ⟨hk _ _ D.TIz D.TIi1 D.TIi2 Z.ti, a3, a4, Z.e1.at fun o e => hk _ o D.l1z D.l1i1 D.l1i2 e, Z.e2.at fun o e => hk _ o D.l2z D.l2i1 D.l2i2 e, (let ⟨o, e⟩ := Z.to; ⟨o, hk _ o D.TOz D.TOi1 D.TOi2 e⟩), .inr ⟨T, true, oT, a1, hk _ _ r1 r2 r3 hT, r1, r2, r3, r4⟩⟩
/-- the iterator's end -/
theorem zip_stop {A : Around} {E : Value → Shared → Prop} {s : Shared} {H : Hp} {i : Nat} {Q : Option Value → Shared → Prop} (hh : A.handled = none) (P : ZSep z TI TO i1 i2 l1 l2 S) (I : L2.Inv X pins σ H s) (Z : ZAt s.heap z TI TO i1 i2 l1 l2 S xs ys i)
    (hf : ∀ b ∈ [z, TI, TO, i1, i2], FpOk X pins H b) (he : xs[i]? = none ∨ ys[i]? = none) (h : ∀ s', L2.Inv X pins σ H s' → Q none s') :
    wpAny (model X.prog X.w) A (pyNext (.ref z)) Q E s := by
  have fin : ∀ h' : Heap, (∀ c o, c ≠ z → c ≠ TO → c ≠ i1 → c ≠ i2 → s.heap.get? c = some o → h'.get? c = some o) → Q none { s with heap := h' } := fun h' hk =>
    h _ (I.turnedL (t' := s.toks) (ch := [z, TI, TO, i1, i2]) (fun c o hc e => hk c o (fun q => hc (by simp [q])) (fun q => hc (by simp [q])) (fun q => hc (by simp [q])) (fun q => hc (by simp [q])) e) hf)
  rcases Z.st with ⟨hz, a, b, hTO⟩ | ⟨T, f, oT, hz, hT, r1, r2, r3, r4⟩
  · exact wpAny_pyNext_zip_end hh P.D hz Z.ti hTO Z.h1 Z.h2 Z.e1 Z.e2 he fun h' hk => fin h' hk
  · exact wpAny_pyNext_zip_end_held hh P.D hz hT Z.ti Z.h1 Z.h2 Z.e1 Z.e2 he fun h' hk => fin h' fun c o c1 _ c2 c3 e => hk c o c1 c2 c3 e
/-- the loop of list.extend over it; J: what is known of the tracked heap and of the list's items -/
theorem zip_loop {A : Around} {R : Result → Shared → Prop} {res : Value} (hh : A.handled = none) (P : ZSep z TI TO i1 i2 l1 l2 S) (rx : Vals xv xs.toList) (ry : Vals yv ys.toList) (n : Nat) (hn : n ≤ sizeLine) (hend : xs[n]? = none ∨ ys[n]? = none)
    (J : Nat → Hp → List V → Prop) (hJ : ∀ i H acc, J i H acc → H S = some (.lst acc) ∧ acc.length = i)
    (step : ∀ i H acc T x y, i < n → J i H acc → xv[i]? = some x → yv[i]? = some y → H T = none → J (i + 1) (upd (upd H T (.tup [x, y])) S (.lst (acc ++ [.ref T]))) (acc ++ [.ref T])) (some_ : ∀ i, i < n → ∃ x y, xv[i]? = some x ∧ yv[i]? = some y)
    (done : ∀ H acc s', J n H acc → L2.Inv X pins σ H s' → R (.ok (.ret res)) s') :
    ∀ (k i : Nat) (s : Shared) (H : Hp) (acc : List V), n - i = k → i ≤ n → J i H acc → L2.Inv X pins σ H s → ZAt s.heap z TI TO i1 i2 l1 l2 S xs ys i → (∀ b ∈ [z, TI, TO, i1, i2], FpOk X pins H b) →
      codeAny (model X.prog X.w) A (.builtin "list.extend.loop" ⟨[.ref S, .ref z, res], []⟩) R s := by
  intro k
  induction k with
  | zero =>
    intro i s H acc hk hi j I Z hf
    obtain rfl : i = n := by omega
    refine codeAny_builtin F.entry_extend_loop ?_
    rw [Around.under_plainId F.plain_extend_loop _]
    show wpAny _ A.in1 (pyNext (.ref z) >>= _) _ _ s
    exact wpAny_bind (zip_stop (show A.in1.handled = none from hh) P I Z hf hend fun s' I' => wpAny_pure (done H acc s' j I'))
  | succ k ih =>
    intro i s H acc hk hi j I Z hf
    have hlt : i < n := by omega
    obtain ⟨hS, hl⟩ := hJ i H acc j
    obtain ⟨x, y, hx, hy⟩ := some_ i hlt
    obtain ⟨hz', its, nn, ri, eS⟩ := I.hok S _ hS
    refine codeAny_builtin F.entry_extend_loop ?_
    rw [Around.under_plainId F.plain_extend_loop _]
    show wpAny _ A.in1 (pyNext (.ref z) >>= _) _ _ s
    refine wpAny_bind (zip_turn P I Z ⟨_, eS⟩ hf rx ry hx hy fun T s' hT nTS kS I' Z' hf' => ?_)
    have eS' := kS _ eS
    have hS' : upd H T (.tup [x, y]) S = some (.lst acc) := by rw [upd_ne nTS.symm]; exact hS
    have hil := ri.length
    show wpAny _ A.in1 (updateSeq S (·.push (.ref T)) >>= _) _ _ _
    refine wpAny_bind (wpAny_updateSeq eS' rfl (wpAny_pure ⟨plainId_quiet F.plain_extend_loop _, ?_⟩) (by rw [List.size_toArray]; omega) (by show (its.toArray.push _).size ≤ _; rw [Array.size_push, List.size_toArray]; omega))
    have upS := Heap.get?_update_self (Obj.mapSeq (·.push (Value.ref T))) eS' rfl
    have oth : ∀ b u, b ≠ S → s'.heap.get? b = some u → (s'.heap.update S (Obj.mapSeq (·.push (Value.ref T)))).get? b = some u := fun b u hb q => (Heap.get?_update_other _ _ (Ne.symm hb)).trans q
    have I2 : L2.Inv X pins σ (upd (upd H T (.tup [x, y])) S (.lst (acc ++ [.ref T]))) { s' with heap := s'.heap.update S (Obj.mapSeq (·.push (Value.ref T))) } := by
      refine I'.write (t' := s'.toks) (x := S) (e := S) (by rw [hS']; trivial) (.inl rfl) oth ⟨_, upS⟩ ⟨by rw [List.length_append]; show acc.length + 1 ≤ _; omega, its ++ [Value.ref T], nn + 1, ri.append (.cons (show L2.RelV (V.ref T) (Value.ref T) from rfl) .nil), ?_⟩
      rw [upS]
      simp [Obj.mapSeq]
    refine ih (i + 1) _ _ (acc ++ [.ref T]) (by omega) hlt (step i H acc T x y hlt j hx hy hT) I2 (Z'.keep P oth) fun b hb => ?_
    have hq := hf' b hb
    refine ⟨?_, hq.2⟩
    rw [upd_ne]
    · exact hq.1
    · simp only [List.mem_cons, List.not_mem_nil, or_false] at hb
      rcases hb with rfl | rfl | rfl | rfl | rfl
      · exact P.sz.symm
      · exact P.sTI.symm
      · exact P.sTO.symm
      · exact P.s1.symm
      · exact P.s2.symm
/-- list(z) -/
theorem list_of_zip {A : Around} {E : Value → Shared → Prop} {s : Shared} {H : Hp} {Q : Value → Shared → Prop} (hh : A.handled = none) (P : ZSep z TI TO i1 i2 l1 l2 s.heap.objs.size) (rx : Vals xv xs.toList) (ry : Vals yv ys.toList) (n : Nat) (hn : n ≤ sizeLine) (hend : xs[n]? = none ∨ ys[n]? = none)
    (J : Nat → Hp → List V → Prop) (hJ : ∀ i H acc, J i H acc → H s.heap.objs.size = some (.lst acc) ∧ acc.length = i)
    (step : ∀ i H acc T x y, i < n → J i H acc → xv[i]? = some x → yv[i]? = some y → H T = none → J (i + 1) (upd (upd H T (.tup [x, y])) s.heap.objs.size (.lst (acc ++ [.ref T]))) (acc ++ [.ref T])) (some_ : ∀ i, i < n → ∃ x y, xv[i]? = some x ∧ yv[i]? = some y)
    (j0 : J 0 (upd H s.heap.objs.size (.lst [])) []) (I : L2.Inv X pins σ H s) (hz0 : IsZip s.heap z TI TO .none) (Z : ZAt s.heap z TI TO i1 i2 l1 l2 s.heap.objs.size xs ys 0) (hf : ∀ b ∈ [z, TI, TO, i1, i2], FpOk X pins H b)
    (done : ∀ H acc s', J n H acc → L2.Inv X pins σ H s' → Q (.ref s.heap.objs.size) s') : wpAny (model X.prog X.w) A (call (.type "list") [.ref z]) Q E s := by
  generalize hSe : s.heap.objs.size = S at *
  have hzt : ∀ h : Heap, ZAt h z TI TO i1 i2 l1 l2 S xs ys 0 → ∃ o, h.get? z = some o ∧ o.cls = .type "zip" := fun h Z => by
    rcases Z.st with ⟨hz, _⟩ | ⟨_, _, _, hz, _⟩ <;> exact ⟨_, hz, rfl⟩
  refine callType_codes (Q₁ := fun obj s₁ => obj = .ref S ∧ s₁ = { s with heap := s.heap.push { cls := .type "list", data := .seq #[] } }) F.called_list (F.typeCall_list_1 _) F.entry_list_init (code_list_new _ ⟨by rw [hSe], rfl⟩) ?_
  rintro _ _ ⟨rfl, rfl⟩
  have g0 : (s.heap.push { cls := .type "list", data := .seq #[] }).get? S = some { cls := .type "list", data := .seq #[] } := by rw [← hSe]; exact Heap.get?_push_size _ rfl
  have hnS : ∀ b o, s.heap.get? b = some o → b ≠ S := fun b o e q => by
    have := Heap.lt_size e
    rw [q, hSe] at this
    exact absurd this (Nat.lt_irrefl _)
  refine ⟨⟨_, g0, rfl⟩, F.args_list_init_2 _ _, ?_⟩
  show wpAny _ A.in1.in1 (do let old ← Builtin.List.listItems (.ref S); Builtin.List.listUpdate (.ref S) (fun _ => #[]); letGo old.toList.reverse; Builtin.List.listExtendWith (.ref S) (.ref z) .none) _ _ _
  refine wpAny_bind ?_
  unfold Builtin.List.listItems
  refine wpAny_bind (wpAny_seqItems g0 rfl (wpAny_pure ?_))
  show wpAny _ A.in1.in1 (updateSeq S (fun _ => #[]) >>= fun _ => letGo (#[] : Array Value).toList.reverse >>= fun _ => Builtin.List.listExtendWith (.ref S) (.ref z) .none) _ _ _
  refine wpAny_bind (wpAny_updateSeq g0 rfl ?_)
  have g1 := Heap.get?_update_self (Obj.mapSeq (fun _ => (#[] : Array Value))) g0 rfl
  refine wpAny_bind (wpAny_letGo ?_)
  have o1 : ∀ b o, s.heap.get? b = some o → ((s.heap.push { cls := .type "list", data := .seq #[] }).update S (Obj.mapSeq (fun _ => (#[] : Array Value)))).get? b = some o :=
    fun b o e => (Heap.get?_update_other _ _ (Ne.symm (hnS b o e))).trans (Heap.get?_push_of_some _ e)
  generalize (s.heap.push { cls := .type "list", data := .seq #[] }).update S (Obj.mapSeq (fun _ => (#[] : Array Value))) = hp1 at g1 o1 ⊢
  have Z1 : ZAt hp1 z TI TO i1 i2 l1 l2 S xs ys 0 := Z.keep P fun b o _ e => o1 b o e
  obtain ⟨oz, ez, cz⟩ := hzt _ Z1
  have tz : Shared.TypeIs { s with heap := hp1 } (.ref z) "zip" := ⟨oz, ez, cz⟩
  unfold Builtin.List.listExtendWith
  refine wpAny_bind (wpAny_typeOf tz ?_)
  have q1 : Builtin.List.listSameRef (.ref S) (.ref z) = false := by simp [Builtin.List.listSameRef, P.sz]
  have q2 : (Value.type "zip" == Value.type "list") = false := by decide
  have q3 : (Value.type "zip" == Value.type "tuple") = false := by decide
  simp only [q1, q2, q3, Bool.or_false, Bool.false_eq_true, if_false]
  have self : ∀ {A' : Around} {E' : Value → Shared → Prop} {Q' : Value → Shared → Prop}, Q' (.ref z) { s with heap := hp1 } → wpAny (model X.prog X.w) A' (pyIter (.ref z)) Q' E' { s with heap := hp1 } := fun q => wpAny_pyIter_zip (o1 _ _ hz0) q
  refine wpAny_bind (self ?_)
  refine wpAny_bind (wpAny_holding ?_)
  unfold Builtin.List.listLengthHint
  refine wpAny_bind (wpAny_specialOf tz zipF_no_len ?_)
  show wpAny _ _ (specialOf (Value.ref z) (Str.ofString "__length_hint__") >>= _) _ _ _
  refine wpAny_bind (wpAny_specialOf tz zipF_no_hint ?_)
  refine wpAny_pure ?_
  show wpAny _ _ (rule "list.extend.makes-room" >>= fun _ => Builtin.List.listTouch (.ref S) >>= fun _ => again (.builtin "list.extend.loop" ⟨[.ref S, .ref z, .none], []⟩)) _ _ _
  refine wpAny_bind (wpAny_rule ?_)
  refine wpAny_bind ?_
  show wpAny _ _ (updateSeq S (·.push .none) >>= fun _ => updateSeq S (·.pop)) _ _ _
  refine wpAny_bind (wpAny_updateSeq g1 rfl ?_)
  have g2 := Heap.get?_update_self (Obj.mapSeq (·.push Value.none)) g1 rfl
  refine wpAny_updateSeq (hz := by seq_fits) g2 rfl ?_
  have g3 := Heap.get?_update_self (Obj.mapSeq (·.pop)) g2 rfl
  have o3 : ∀ b o, b ≠ S → hp1.get? b = some o → ((hp1.update S (Obj.mapSeq (·.push Value.none))).update S (Obj.mapSeq (·.pop))).get? b = some o :=
    fun b o hb e => (Heap.get?_update_other _ _ (Ne.symm hb)).trans ((Heap.get?_update_other _ _ (Ne.symm hb)).trans e)
  have I3 : L2.Inv X pins σ (upd H S (.lst [])) { s with heap := (hp1.update S (Obj.mapSeq (·.push Value.none))).update S (Obj.mapSeq (·.pop)) } := by
    refine I.laid (t' := s.toks) (fun b o e => o3 b o (hnS b o e) (o1 b o e)) (Nat.le_of_eq hSe) ⟨Nat.zero_le _, [], _, .nil, g3⟩
  refine wpAny_pure ⟨plainId_quiet F.plain_extend_loop _, ?_⟩
  refine zip_loop (S := S) (show A.in1.handled = none from hh) P rx ry n hn hend J hJ step some_ (fun H' acc s' j I' => ?_) n 0 _ _ [] (Nat.sub_zero _) (Nat.zero_le _) j0 I3 (Z1.keep P o3) fun b hb => ?_
  · exact ⟨rfl, done H' acc s' j I'⟩
  · have hq := hf b hb
    refine ⟨?_, hq.2⟩
    rw [upd_ne]
    · exact hq.1
    · simp only [List.mem_cons, List.not_mem_nil, or_false] at hb
      rcases hb with rfl | rfl | rfl | rfl | rfl
      · exact P.sz.symm
      · exact P.sTI.symm
      · exact P.sTO.symm
      · exact P.s1.symm
      · exact P.s2.symm
end
end Pv

/-! E19: list(zip(a, b)) by the evaluator. -/
namespace Pv
open PySem PySem.Spec PyProof.Rows L2
section
variable {f : Cf} {X : Cx} {a b : Expr} {ia ib : Ex} {pos : Pos}
theorem zw_take {xs ys : List TV} {i : Nat} {x y : TV} (hx : xs[i]? = some x) (hy : ys[i]? = some y) : (List.zipWith (fun x y => TV.tup [x, y]) xs ys).take (i + 1) = (List.zipWith (fun x y => TV.tup [x, y]) xs ys).take i ++ [.tup [x, y]] := by
  have hi : i < (List.zipWith (fun x y => TV.tup [x, y]) xs ys).length := by
    rw [List.length_zipWith]
    have h1 := (List.getElem?_eq_some_iff.mp hx).1
    have h2 := (List.getElem?_eq_some_iff.mp hy).1
    omega
  rw [List.take_add_one, List.getElem?_zipWith, hx, hy]
  rfl
theorem q_lzip (r : Bool) (xo : Xo f.c X) {p p2 pos2 : Pos} (hg : Gl X "list") (hm : X.mg "list" = none) (hg2 : Gl X "zip") (hm2 : X.mg "zip" = none) (ha : PA X [a, b] (tA f (.cons ia (.cons ib .nil))))
    (h1 : starEach [a, b] X.env = (false, eval a X.env) :: starEach [b] X.env) (hpl : (backTo pos2 (starEach [b] X.env)).any (·.1) = false)
    (na : starEach [.Call (.Name "zip" p2) [a, b] [] pos2] X.env = (false, eval (.Call (.Name "zip" p2) [a, b] [] pos2) X.env) :: starEach [] X.env) :
    PE X (.Call (.Name "list" p) [.Call (.Name "zip" p2) [a, b] [] pos2] [] pos) (tE f (.lzip r ia ib)) := by
  refine ⟨fun pins s σV H Q I h => ?_⟩
  have e1 : ∀ σ R, evE f.G f.n0 (.lzip r ia ib) σ R = (evs f.G f.n0 (.cons ia (.cons ib .nil)) σ R).bind fun vs R2 => match vs with
    | [x, y] => match asL R2 x, asL R2 y with
      | some xs, some ys => alloc r (.lst (List.zipWith (fun x y => TV.tup [x, y]) xs ys)) R2
      | _, _ => .no
    | _ => .no := fun σ R => by
    rw [evE, evs]
    cases evE f.G f.n0 ia σ R with
    | ok x R1 =>
      simp only [Rz.bind_ok]
      rw [evs]
      cases evE f.G f.n0 ib σ R1 with
      | ok y R2 => simp only [Rz.bind_ok]; rw [evs] <;> rfl
      | exc _ _ _ => rfl
      | no => rfl
    | exc _ _ _ => rfl
    | no => rfl
  have h2 := At.args (ies := .cons ia (.cons ib .nil)) (g := fun vs R2 => match vs with
    | [x, y] => match asL R2 x, asL R2 y with
      | some xs, some ys => alloc r (.lst (List.zipWith (fun x y => TV.tup [x, y]) xs ys)) R2
      | _, _ => .no
    | _ => .no) e1 h
  refine Call_ (ld_blt I hg hm boot_list (PyProof.Rows.callWith_type1 (args_cons (Call_ (ld_blt I hg2 hm2 PyProof.Rows.boot_zip (PyProof.Rows.callWith_type1 (thn (ha.run pos2 pins s σV H _ I h2) fun us s1 ⟨vs, H1, I1, rv, q1⟩ => ?_) h1 hpl))) na) na))
  obtain ⟨N, α, R, ts, hn, S, rs, p⟩ := q1
  cases rs with
  | nil => exact False.elim p
  | @cons x tr v vs r1 rs =>
    cases rs with
    | nil => exact False.elim p
    | @cons y tr v2 vs r2 rs =>
      cases rs with
      | cons _ _ => exact False.elim p
      | nil =>
        try dsimp only at p
        cases qx : asL R x with
        | none => rw [qx] at p; exact False.elim p
        | some txs =>
          cases qy : asL R y with
          | none => rw [qx, qy] at p; exact False.elim p
          | some tys =>
            rw [qx, qy] at p
            obtain ⟨l1, xv, rfl, hl1, rx⟩ := asL_ok S r1 qx
            obtain ⟨l2, yv, rfl, hl2, ry⟩ := asL_ok S r2 qy
            cases rv with
            | cons v1 rv =>
              cases rv with
              | cons v2 rv =>
                cases rv
                cases v1
                cases v2
                obtain ⟨its, vx, p1, z1⟩ := I1.list (xo.K ▸ hl1)
                obtain ⟨its2, vy, p2', z2⟩ := I1.list (xo.K ▸ hl2)
                have lt1 := p1.lt
                have lt2 := p2'.lt
                refine call_zip_2 p1.isList p2'.isList fun h' hz hTI hTO i1 i2 hsz hk => ?_
                have I2 : L2.Inv X pins σV H1 { s1 with heap := h' } := I1.kept (t' := s1.toks) hk
                refine args_nil ?_
                have hD := PySem.W.ktu_apart s1.heap.objs.size l1 l2 lt1 lt2
                have ne5 : ∀ j, j < 5 → ({ s1 with heap := h' } : Shared).heap.objs.size ≠ s1.heap.objs.size + j := fun j hj q => by
                  have : h'.objs.size = s1.heap.objs.size + j := q
                  omega
                have nel : ∀ l, l < s1.heap.objs.size → ({ s1 with heap := h' } : Shared).heap.objs.size ≠ l := fun l hl q => by
                  have : h'.objs.size = l := q
                  omega
                have P : ZSep (s1.heap.objs.size + 4) (s1.heap.objs.size + 2) (s1.heap.objs.size + 3) s1.heap.objs.size (s1.heap.objs.size + 1) l1 l2 ({ s1 with heap := h' } : Shared).heap.objs.size :=
                  ⟨hD, ne5 4 (by omega), ne5 2 (by omega), ne5 3 (by omega), ne5 0 (by omega), ne5 1 (by omega), nel l1 lt1, nel l2 lt2⟩
                have fr : ∀ c ∈ [s1.heap.objs.size + 4, s1.heap.objs.size + 2, s1.heap.objs.size + 3, s1.heap.objs.size, s1.heap.objs.size + 1], FpOk X pins H1 c := fun c hc => by
                  have hle : s1.heap.objs.size ≤ c := by
                    simp only [List.mem_cons, List.not_mem_nil, or_false] at hc
                    omega
                  exact I1.fpOk hle (I1.hok.fresh hle)
                have Z0 : ZAt ({ s1 with heap := h' } : Shared).heap (s1.heap.objs.size + 4) (s1.heap.objs.size + 2) (s1.heap.objs.size + 3) s1.heap.objs.size (s1.heap.objs.size + 1) l1 l2 ({ s1 with heap := h' } : Shared).heap.objs.size its.toArray its2.toArray 0 :=
                  ⟨hTI, i1, i2, p1.isList.at fun o e => hk _ o e, p2'.isList.at fun o e => hk _ o e, ⟨_, hTO⟩, .inl ⟨hz, _, _, hTO⟩⟩
                have hlx := vx.length
                have hly := vy.length
                have hrx := rx.length
                have hry := ry.length
                have fin : ∀ (Sa : Addr), ({ s1 with heap := h' } : Shared).heap.objs.size = Sa → wpAny (model X.prog X.w) X.A (call (.type "list") [.ref (s1.heap.objs.size + 4)]) (EP X pins σV Q) X.xe { s1 with heap := h' } := fun Sa hSa => by
                  have hSn : H1 Sa = none := I2.hok.fresh (Nat.le_of_eq hSa)
                  refine list_of_zip (xv := xv) (yv := yv) (I.ok.hd xo.calm) P (by simpa using vx) (by simpa using vy) (min xv.length yv.length) (by omega) ?_
                    (fun i H' acc => Later f.n0 α R H1 α R H' ∧ SR (f.k (addG N Sa)) α R H' ∧ H' Sa = some (.lst acc) ∧ acc.length = i ∧ Reps (f.k (addG N Sa)) α R.length H' ((List.zipWith (fun x y => TV.tup [x, y]) txs tys).take i) acc)
                    (fun i H' acc ⟨_, _, h3, h4, _⟩ => ⟨by rw [hSa]; exact h3, h4⟩) ?_ (fun i hi => ?_) ?_ I2 hz Z0 fr ?_
                  · rcases Nat.le_total xv.length yv.length with q | q
                    · exact .inl (by rw [Nat.min_eq_left q]; simp; omega)
                    · exact .inr (by rw [Nat.min_eq_right q]; simp; omega)
                  · rintro i H' acc T x' y' hi ⟨L, S', hS', hl', ra⟩ hx hy hT
                    rw [hSa]
                    have hx' : i < txs.length := by omega
                    have hy' : i < tys.length := by omega
                    obtain ⟨u, hu, ru⟩ := rx.get (List.getElem?_eq_getElem hx')
                    rw [hx] at hu; cases hu
                    obtain ⟨u, hu, ru2⟩ := ry.get (List.getElem?_eq_getElem hy')
                    rw [hy] at hu; cases hu
                    have ru' := (Rep.ghost (N := N) (ob := .lst []) hSn ru)
                    have ru2' := (Rep.ghost (N := N) (ob := .lst []) hSn ru2)
                    have Lf : Later f.n0 α R H' α R (upd H' T (.tup [x', y'])) := Later.fresh S' hT
                    have hST : Sa ≠ T := ne_of_none hS' hT
                    -- the items, hidden list or not
                    have g1 : Rep (f.k (addG N Sa)) α R.length H' txs[i] x' := by
                      have L2' : Later f.n0 α R (upd H1 Sa (.lst acc)) α R H' := ⟨L.len, L.al, fun a o ho hm => by
                        by_cases e : a = Sa
                        · subst e; rw [upd_same] at ho; rw [← ho]; exact hS'
                        · rw [upd_ne e] at ho; exact L.keep a o ho hm, fun a ha => by
                        by_cases e : a = Sa
                        · subst e; rw [hS'] at ha; cases ha
                        · rw [upd_ne e]; exact L.trk a ha, fun a hm => .inl hm, L.cl⟩
                      exact (Rep.ghost (N := N) (ob := .lst acc) hSn ru).later L2'
                    have g2 : Rep (f.k (addG N Sa)) α R.length H' tys[i] y' := by
                      have L2' : Later f.n0 α R (upd H1 Sa (.lst acc)) α R H' := ⟨L.len, L.al, fun a o ho hm => by
                        by_cases e : a = Sa
                        · subst e; rw [upd_same] at ho; rw [← ho]; exact hS'
                        · rw [upd_ne e] at ho; exact L.keep a o ho hm, fun a ha => by
                        by_cases e : a = Sa
                        · subst e; rw [hS'] at ha; cases ha
                        · rw [upd_ne e]; exact L.trk a ha, fun a hm => .inl hm, L.cl⟩
                      exact (Rep.ghost (N := N) (ob := .lst acc) hSn ru2).later L2'
                    refine ⟨(L.trans Lf).touch hSn, (S'.fresh hT).touch, upd_same, by rw [List.length_append, hl'] <;> rfl, ?_⟩
                    rw [zw_take (List.getElem?_eq_getElem hx') (List.getElem?_eq_getElem hy')]
                    refine Reps.touch ((ra.later Lf).append (.cons (.tup upd_same (S'.nMM hT) (.cons (g1.later Lf) (.cons (g2.later Lf) .nil))) .nil))
                  · exact ⟨_, _, List.getElem?_eq_getElem (show i < xv.length by omega), List.getElem?_eq_getElem (show i < yv.length by omega)⟩
                  · rw [hSa]
                    exact ⟨Later.fresh S hSn, S.ghost hSn, upd_same, rfl, .nil⟩
                  · rintro H' acc s' ⟨L, S', hS', hl', ra⟩ I'
                    rw [hSa]
                    refine ⟨.ref Sa, H', I', rfl, ?_⟩
                    have e5 : (List.zipWith (fun x y => TV.tup [x, y]) txs tys).take (min xv.length yv.length) = List.zipWith (fun x y => TV.tup [x, y]) txs tys := by
                      rw [List.take_of_length_le]
                      rw [List.length_zipWith]; omega
                    rw [e5] at ra
                    have z := lit_ok (o := .lst (List.zipWith (fun x y => TV.tup [x, y]) txs tys)) (ob := .lst acc) S hSn hn L S' ⟨_, rfl, ra⟩ p
                    rw [upd_self hS'] at z
                    exact z
                exact fin _ rfl
end
end Pv

/-! P00: the evaluator's equations, one for each form but comprehensions and loops (printed from E1). -/
namespace Pv
open PySem L2
section
variable {G : Ga} {n0 : Nat} {σ : Slots} {R : Rs} {a b c e o ib ie : Ex} {as es ks kvs : Exs} {lo hi : Ox} {op op' : CmpOp} {v x : TV} {vs : List TV} {t : Tg} {ts : Tgs} {s : Sm} {ss s1 s2 : Sms} {f j k : Nat} {m : Mt} {r : Bool} {bop : Operator} {bb : Bi} {kds : List Kd} {nm : Str} {perm : List Nat}
@[simp] theorem eE_var : evE G n0 (.var j) σ R = match σ[j]? with
    | some (some v) => .ok v R
    | _ => .no := by rw [evE] <;> rfl
@[simp] theorem eE_cst : evE G n0 (.cst v) σ R = .ok v R := by rw [evE] <;> rfl
@[simp] theorem eE_bin : evE G n0 (.bin bop r a b) σ R = (evE G n0 a σ R).bind fun x R1 => (evE G n0 b σ R1).bind fun y R2 => binV bop r x y R2 := by rw [evE] <;> rfl
@[simp] theorem eE_neg : evE G n0 (.neg a) σ R = (evE G n0 a σ R).bind fun x R1 => match x with
    | .int i => .ok (.int (-i)) R1
    | _ => .no := by rw [evE] <;> rfl
@[simp] theorem eE_cmp : evE G n0 (.cmp op a b) σ R = (evE G n0 a σ R).bind fun x R1 => (evE G n0 b σ R1).bind fun y R2 => ofO ((cmpV op x y R2).map .bl) R2 := by rw [evE] <;> rfl
@[simp] theorem eE_chn : evE G n0 (.chn op op' a b c) σ R = (evE G n0 a σ R).bind fun x R1 => (evE G n0 b σ R1).bind fun y R2 => match cmpV op x y R2 with
    | some true => (evE G n0 c σ R2).bind fun z R3 => ofO ((cmpV op' y z R3).map .bl) R3
    | some false => .ok (.bl false) R2
    | none => .no := by rw [evE] <;> rfl
@[simp] theorem eE_and : evE G n0 (.and a b) σ R = (evE G n0 a σ R).bind fun x R1 => match truV R1 x with
    | some true => evE G n0 b σ R1
    | some false => .ok x R1
    | none => .no := by rw [evE] <;> rfl
@[simp] theorem eE_or : evE G n0 (.or a b) σ R = (evE G n0 a σ R).bind fun x R1 => match truV R1 x with
    | some false => evE G n0 b σ R1
    | some true => .ok x R1
    | none => .no := by rw [evE] <;> rfl
@[simp] theorem eE_not : evE G n0 (.not a) σ R = (evE G n0 a σ R).bind fun x R1 => ofO ((truV R1 x).map fun b => .bl (!b)) R1 := by rw [evE] <;> rfl
@[simp] theorem eE_ifx : evE G n0 (.ifx c a b) σ R = (evE G n0 c σ R).bind fun x R1 => match truV R1 x with
    | some true => evE G n0 a σ R1
    | some false => evE G n0 b σ R1
    | none => .no := by rw [evE] <;> rfl
@[simp] theorem eE_call : evE G n0 (.call f as) σ R = (evs G n0 as σ R).bind fun vs R1 => G.call n0 f vs R1 := by rw [evE] <;> rfl
@[simp] theorem eE_callk : evE G n0 (.callk f as ks perm) σ R = (evs G n0 as σ R).bind fun vs R1 => (evs G n0 ks σ R1).bind fun zs R2 => match permT (vs ++ zs) perm with
    | some us => G.call n0 f us R2
    | none => .no := by rw [evE] <;> rfl
@[simp] theorem eE_make : evE G n0 (.make j as) σ R = (evs G n0 as σ R).bind fun vs R1 => makeV G n0 j vs R1 := by rw [evE] <;> rfl
@[simp] theorem eE_bi : evE G n0 (.bi bb r as) σ R = (evs G n0 as σ R).bind fun vs R1 => biV bb r vs R1 := by rw [evE] <;> rfl
@[simp] theorem eE_isa : evE G n0 (.isa a kds) σ R = (evE G n0 a σ R).bind fun x R1 => ofO ((isaV G R1 x kds).map .bl) R1 := by rw [evE] <;> rfl
@[simp] theorem eE_mth : evE G n0 (.mth m r o as) σ R = (evE G n0 o σ R).bind fun x R1 => guardR (mtOk m x R1) ((evs G n0 as σ R1).bind fun vs R2 => mthV n0 m x vs R2) := by rw [evE] <;> rfl
@[simp] theorem eE_own : evE G n0 (.own nm o as) σ R = (evE G n0 o σ R).bind fun x R1 => match asI R1 x with
    | some (c, fs) => match fs.lookup nm, G.meth c nm with
      | none, some f => (evs G n0 as σ R1).bind fun vs R2 => G.call n0 f (x :: vs) R2
      | _, _ => .no
    | none => .no := by rw [evE] <;> rfl
@[simp] theorem eE_fld : evE G n0 (.fld o nm) σ R = (evE G n0 o σ R).bind fun x R1 => match asI R1 x with
    | some (c, fs) => match G.fldk c nm with
      | .prop g => G.call n0 g [x] R1
      | .fld => ofO (fs.lookup nm) R1
      | .no => .no
    | none => .no := by rw [evE] <;> rfl
@[simp] theorem eE_sub : evE G n0 (.sub o b) σ R = (evE G n0 o σ R).bind fun x R1 => (evE G n0 b σ R1).bind fun y R2 => ofO (ixV R2 x y) R2 := by rw [evE] <;> rfl
@[simp] theorem eE_slc : evE G n0 (.slc r o lo hi) σ R = (evE G n0 o σ R).bind fun x R1 => (evO G n0 lo σ R1).bind fun l R2 => (evO G n0 hi σ R2).bind fun h R3 => slcV r x l h R3 := by rw [evE] <;> rfl
@[simp] theorem eE_lst : evE G n0 (.lst r as) σ R = (evs G n0 as σ R).bind fun vs R1 => guardR (decide (vs.length ≤ sizeLine)) (alloc r (.lst vs) R1) := by rw [evE] <;> rfl
@[simp] theorem eE_tup : evE G n0 (.tup as) σ R = (evs G n0 as σ R).bind fun vs R1 => guardR (decide (vs.length ≤ sizeLine)) (.ok (.tup vs) R1) := by rw [evE] <;> rfl
@[simp] theorem eE_dct : evE G n0 (.dct r) σ R = alloc r (.dct []) R := by rw [evE] <;> rfl
@[simp] theorem eE_dctp : evE G n0 (.dctp r kvs) σ R = (evs G n0 kvs σ R).noexc.bind fun vs R1 => match pairsOf vs with
    | some ps => guardR (decide (ps.length ≤ 15)) (alloc r (.dct (mergeT [] ps)) R1)
    | none => .no := by rw [evE] <;> rfl
@[simp] theorem eE_lzip : evE G n0 (.lzip r a b) σ R = (evE G n0 a σ R).bind fun x R1 => (evE G n0 b σ R1).bind fun y R2 => match asL R2 x, asL R2 y with
    | some xs, some ys => alloc r (.lst (List.zipWith (fun x y => TV.tup [x, y]) xs ys)) R2
    | _, _ => .no := by rw [evE] <;> rfl
@[simp] theorem eE_lrng : evE G n0 (.lrng r a) σ R = (evE G n0 a σ R).bind fun x R1 => match x with
    | .int n => guardR (decide (0 ≤ n ∧ n < 1000000)) (alloc r (.lst ((List.range n.toNat).map fun (i : Nat) => TV.int (i : Int))) R1)
    | _ => .no := by rw [evE] <;> rfl
@[simp] theorem es_nil : evs G n0 .nil σ R = .ok [] R := by rw [evs] <;> rfl
@[simp] theorem es_cons : evs G n0 (.cons e es) σ R = (evE G n0 e σ R).bind fun x R1 => (evs G n0 es σ R1).bind fun xs R2 => .ok (x :: xs) R2 := by rw [evs] <;> rfl
@[simp] theorem eO_none : evO G n0 .none σ R = .ok none R := by rw [evO] <;> rfl
@[simp] theorem eO_some : evO G n0 (.some e) σ R = (evE G n0 e σ R).bind fun x R1 => match x with
    | .int i => .ok (some i) R1
    | _ => .no := by rw [evO] <;> rfl
@[simp] theorem eI_val : evI G n0 (.val e) σ R = (evE G n0 e σ R).bind fun x R1 => match x with
    | .tup xs => .ok (.tup xs) R1
    | .str s => .ok (.str s.cps.toList) R1
    | x => match asL R1 x with
      | some _ => .ok (.lst x) R1
      | none => .no := by rw [evI] <;> rfl
@[simp] theorem eI_rng1 : evI G n0 (.rng1 a) σ R = (evE G n0 a σ R).bind fun x R1 => match x with
    | .int n => guardR (decide (-(2 ^ 62) ≤ n ∧ n < 2 ^ 62)) (.ok (.rng 0 n.toNat) R1)
    | _ => .no := by rw [evI] <;> rfl
@[simp] theorem eI_rng2 : evI G n0 (.rng2 a b) σ R = (evE G n0 a σ R).bind fun x R1 => (evE G n0 b σ R1).bind fun y R2 => match x, y with
    | .int i, .int j => guardR (decide (-(2 ^ 62) ≤ i ∧ i < 2 ^ 62 ∧ -(2 ^ 62) ≤ j ∧ j < 2 ^ 62)) (.ok (.rng i (j - i).toNat) R2)
    | _, _ => .no := by rw [evI] <;> rfl
@[simp] theorem eI_enum : evI G n0 (.enum a) σ R = (evE G n0 a σ R).bind fun x R1 => match asT x with
    | some xs => .ok (.enumT xs) R1
    | none => match asL R1 x with
      | some _ => .ok (.enum x) R1
      | none => .no := by rw [evI] <;> rfl
@[simp] theorem eI_zip : evI G n0 (.zip a b) σ R = (evE G n0 a σ R).bind fun x R1 => (evE G n0 b σ R1).bind fun y R2 => match asT x, asT y with
    | some xs, some ys => .ok (.zipT xs ys) R2
    | _, _ => match asL R2 x, asL R2 y with
      | some _, some _ => .ok (.zip x y) R2
      | _, _ => .no := by rw [evI] <;> rfl
@[simp] theorem eT_name : evT G n0 (.name j) v σ R = .ok (σ.set j (some v)) R := by rw [evT] <;> rfl
@[simp] theorem eT_tup : evT G n0 (.tup ts) v σ R = match v with
    | .tup xs => guardR (decide (xs.length = ts.len)) (evTs G n0 ts xs σ R)
    | _ => .no := by cases v <;> (rw [evT] <;> first | rfl | (intro _ h; cases h))
@[simp] theorem eT_sub : evT G n0 (.sub o b) v σ R = (evE G n0 o σ R).bind fun x R1 => (evE G n0 b σ R1).bind fun y R2 => match putIx n0 x y v R2 with
    | some R3 => .ok σ R3
    | none => .no := by rw [evT] <;> rfl
@[simp] theorem eT_fld : evT G n0 (.fld o nm) v σ R = (evE G n0 o σ R).bind fun x R1 => match putFld G n0 x nm v R1 with
    | some R2 => .ok σ R2
    | none => .no := by rw [evT] <;> rfl
@[simp] theorem eTs_nil : evTs G n0 .nil [] σ R = .ok σ R := by rw [evTs]
@[simp] theorem eTs_cons : evTs G n0 (.cons t ts) (v :: vs) σ R = (evT G n0 t v σ R).bind fun σ1 R1 => evTs G n0 ts vs σ1 R1 := by rw [evTs]
@[simp] theorem eS_expr : evS G n0 (.expr e) σ R = (evE G n0 e σ R).bind fun _ R1 => .ok (.nx, σ) R1 := by rw [evS] <;> rfl
@[simp] theorem eS_ret : evS G n0 (.ret e) σ R = (evE G n0 e σ R).bind fun v R1 => .ok (.rt v, σ) R1 := by rw [evS] <;> rfl
@[simp] theorem eS_retN : evS G n0 .retN σ R = .ok (.rt .non, σ) R := by rw [evS] <;> rfl
@[simp] theorem eS_pass : evS G n0 .pass σ R = .ok (.nx, σ) R := by rw [evS] <;> rfl
@[simp] theorem eS_stuck : evS G n0 .stuck σ R = .no := by rw [evS] <;> rfl
@[simp] theorem eS_brk : evS G n0 .brk σ R = .ok (.bk, σ) R := by rw [evS] <;> rfl
@[simp] theorem eS_cont : evS G n0 .cont σ R = .ok (.ct, σ) R := by rw [evS] <;> rfl
@[simp] theorem eS_asg : evS G n0 (.asg t e) σ R = (evE G n0 e σ R).bind fun v R1 => (evT G n0 t v σ R1).bind fun σ1 R2 => .ok (.nx, σ1) R2 := by rw [evS] <;> rfl
@[simp] theorem eS_par : evS G n0 (.par f j a b) σ R = (evE G n0 a σ R).bind fun x R1 => (evE G n0 b σ R1).bind fun y R2 => .ok (.nx, (σ.set f (some x)).set j (some y)) R2 := by rw [evS] <;> rfl
@[simp] theorem eS_par3 : evS G n0 (.par3 f j k a b c) σ R = (evE G n0 a σ R).bind fun x R1 => (evE G n0 b σ R1).bind fun y R2 => (evE G n0 c σ R2).bind fun z R3 =>
      .ok (.nx, ((σ.set f (some x)).set j (some y)).set k (some z)) R3 := by rw [evS] <;> rfl
@[simp] theorem eS_ifs : evS G n0 (.ifs c s1 s2) σ R = (evE G n0 c σ R).bind fun x R1 => match truV R1 x with
    | some true => evSs G n0 s1 σ R1
    | some false => evSs G n0 s2 σ R1
    | none => .no := by rw [evS] <;> rfl
@[simp] theorem eSs_nil : evSs G n0 .nil σ R = .ok (.nx, σ) R := by rw [evSs] <;> rfl
@[simp] theorem eSs_cons : evSs G n0 (.cons s ss) σ R = (evS G n0 s σ R).bind fun r R1 => match r with
    | (.nx, σ1) => evSs G n0 ss σ1 R1
    | r => .ok r R1 := by rw [evSs] <;> rfl
@[simp] theorem ofO_some' {α : Type} (x : α) (R : Rs) : ofO (some x) R = .ok x R := rfl
@[simp] theorem guardR_true' {α : Type} (r : Rz α) : guardR true r = r := rfl
@[simp] theorem guardO_true' {α : Type} (r : Option α) : guardO true r = r := rfl
@[simp] theorem retOf_nx (σ : Slots) : retOf (.nx, σ) = some .non := rfl
@[simp] theorem retOf_rt (v : TV) (σ : Slots) : retOf (.rt v, σ) = some v := rfl
@[simp] theorem settle_int (n : Nat) (i : Int) (R : Rs) : Pv.settle n (.int i) R = .ok (.int i) (R.take n) := rfl
@[simp] theorem settle_bl (n : Nat) (i : Bool) (R : Rs) : Pv.settle n (.bl i) R = .ok (.bl i) (R.take n) := rfl
@[simp] theorem settle_non (n : Nat) (R : Rs) : Pv.settle n .non R = .ok .non (R.take n) := rfl
@[simp] theorem truV_bl (R : Rs) (b : Bool) : truV R (.bl b) = some b := rfl
@[simp] theorem endFn_tree (n : Nat) (v : TV) (R : Rs) : endFn .tree n v R = Pv.settle n v R := rfl
@[simp] theorem endFn_root (n : Nat) (v : TV) (R : Rs) : endFn .root n v R = handOn n v R := rfl
end
end Pv

/-! P0: reasoning about the evaluator's answers. -/
namespace Pv
def Rz.wp {α : Type} (r : Rz α) (Q : α → Rs → Prop) : Prop := match r with
  | .ok a R => Q a R
  | _ => False
@[simp] theorem wp_ok {α : Type} (a : α) (R : Rs) (Q : α → Rs → Prop) : (Rz.ok a R).wp Q = Q a R := rfl
theorem wp_bind {α β : Type} (r : Rz α) (f : α → Rs → Rz β) (Q : β → Rs → Prop) : (r.bind f).wp Q = r.wp fun a R => (f a R).wp Q := by cases r <;> rfl
theorem wp_mono {α : Type} {r : Rz α} {Q Q' : α → Rs → Prop} (h : r.wp Q) (q : ∀ a R, Q a R → Q' a R) : r.wp Q' := by
  cases r with
  | ok a R => exact q a R h
  | exc _ _ _ => exact h
  | no => exact h
theorem wp_eq {α : Type} {r : Rz α} {Q : α → Rs → Prop} (h : r.wp Q) : ∃ a R, r = .ok a R ∧ Q a R := by
  cases r with
  | ok a R => exact ⟨a, R, rfl, h⟩
  | exc _ _ _ => exact False.elim h
  | no => exact False.elim h
theorem wp_guard {α : Type} {b : Bool} {r : Rz α} {Q : α → Rs → Prop} (h : b = true) (q : r.wp Q) : (guardR b r).wp Q := by subst h; exact q
/-- a loop by an invariant and a measure -/
theorem loop_wp {body : Nat → Slots → Rs → Rz (Option (Fl × Slots))} {Q : Fl × Slots → Rs → Prop} (I : Nat → Nat → Slots → Rs → Prop)
    (step : ∀ m i σ R, I m i σ R → (body i σ R).wp fun r R1 => match r with
      | none => Q (.nx, σ) R1
      | some (.nx, σ1) => ∃ m', m' < m ∧ I m' (i + 1) σ1 R1
      | some (.ct, σ1) => ∃ m', m' < m ∧ I m' (i + 1) σ1 R1
      | some (.bk, σ1) => Q (.nx, σ1) R1
      | some (.rt v, σ1) => Q (.rt v, σ1) R1) : ∀ (n m i : Nat) (σ : Slots) (R : Rs), m < n → I m i σ R → (loopN body n i σ R).wp Q := by
  intro n
  induction n with
  | zero => intro m i σ R h; exact absurd h (Nat.not_lt_zero _)
  | succ n ih =>
    intro m i σ R hm hI
    show ((body i σ R).bind _).wp Q
    rw [wp_bind]
    refine wp_mono (step m i σ R hI) fun r R1 h => ?_
    cases r with
    | none => exact h
    | some fs =>
      obtain ⟨fl, σ1⟩ := fs
      cases fl with
      | nx => obtain ⟨m', h1, h2⟩ := h; exact ih m' (i + 1) σ1 R1 (by omega) h2
      | ct => obtain ⟨m', h1, h2⟩ := h; exact ih m' (i + 1) σ1 R1 (by omega) h2
      | bk => exact h
      | rt v => exact h
/-- a for over n items, all of them walked -/
theorem for_wp {body : Nat → Slots → Rs → Rz (Option (Fl × Slots))} {Q : Fl × Slots → Rs → Prop} (n : Nat) (hn : n < W0) (I : Nat → Slots → Rs → Prop) {σ : Slots} {R : Rs} (h0 : I 0 σ R)
    (step : ∀ i σ R, i < n → I i σ R → (body i σ R).wp fun r R1 => match r with
      | none => False
      | some (.nx, σ1) => I (i + 1) σ1 R1
      | some (.ct, σ1) => I (i + 1) σ1 R1
      | some (.bk, σ1) => Q (.nx, σ1) R1
      | some (.rt v, σ1) => Q (.rt v, σ1) R1)
    (stop : ∀ σ R, I n σ R → (body n σ R).wp fun r R1 => r = none ∧ Q (.nx, σ) R1) : (loopN body W0 0 σ R).wp Q := by
  refine loop_wp (fun m i σ R => m = n - i ∧ i ≤ n ∧ I i σ R) ?_ W0 n 0 σ R hn ⟨rfl, Nat.zero_le _, h0⟩
  rintro m i σ R ⟨rfl, hi, hI⟩
  by_cases h : i < n
  · refine wp_mono (step i σ R h hI) fun r R1 q => ?_
    cases r with
    | none => exact False.elim q
    | some fs =>
      obtain ⟨fl, σ1⟩ := fs
      cases fl with
      | nx => exact ⟨n - (i + 1), by omega, rfl, h, q⟩
      | ct => exact ⟨n - (i + 1), by omega, rfl, h, q⟩
      | bk => exact q
      | rt v => exact q
  · have : i = n := by omega
    subst this
    refine wp_mono (stop σ R hI) fun r R1 q => ?_
    rw [q.1]; exact q.2
/-- a comprehension whose turns change nothing -/
theorem comp_pure {turn : Nat → Rs → Rz (Option (Option TV))} {R : Rs} (n : Nat) (g : Nat → Option TV) (hn : n ≤ 100000) (step : ∀ i, i < n → turn i R = .ok (some (g i)) R) (stop : turn n R = .ok none R) :
    compN turn W0 0 [] R = .ok ((List.range n).filterMap g) R := by
  have key : ∀ k i acc, n - i = k → i ≤ n → acc = (List.range i).filterMap g → ∀ m, k < m → compN turn m i acc R = .ok ((List.range n).filterMap g) R := by
    intro k
    induction k with
    | zero =>
      intro i acc hk hi ha m hm
      have : i = n := by omega
      subst this
      cases m with
      | zero => omega
      | succ m =>
        show (turn i R).bind _ = _
        rw [stop, Rz.bind_ok, ha]
    | succ k ih =>
      intro i acc hk hi ha m hm
      cases m with
      | zero => omega
      | succ m =>
        show (turn i R).bind _ = _
        rw [step i (by omega), Rz.bind_ok]
        have e : (List.range (i + 1)).filterMap g = (List.range i).filterMap g ++ (match g i with
          | none => []
          | some v => [v]) := by
          rw [List.range_succ, List.filterMap_append]
          cases q : g i <;> simp [q]
        cases q : g i with
        | none =>
          refine ih (i + 1) acc (by omega) (by omega) ?_ m (by omega)
          rw [e, q, ha]; simp
        | some v =>
          have hl : acc.length ≤ i := by
            rw [ha]
            exact Nat.le_trans (List.length_filterMap_le _ _) (by simp)
          have hz : decide (acc.length < PySem.sizeLine) = true := decide_eq_true (Nat.lt_of_le_of_lt hl (Nat.lt_of_lt_of_le (show i < 100001 by omega) (by decide)))
          show guardR (decide (acc.length < PySem.sizeLine)) (compN turn m (i + 1) (acc ++ [v]) R) = _
          rw [hz]
          refine ih (i + 1) (acc ++ [v]) (by omega) (by omega) ?_ m (by omega)
          rw [e, q, ha]
  exact key n 0 [] (by omega) (Nat.zero_le _) rfl W0 (by show n < 1000000; omega)
/-- a comprehension whose turns change nothing, evaluated -/
theorem ev_comp {G : Ga} {n0 : Nat} {ie iif : Ex} {t : Tg} {it : It} {own : List Nat} {σ : Slots} {R R1 : Rs} {r : Bool} {w : Wk} (hw : evI G n0 it σ R = .ok w R1) (n : Nat) (g : Nat → Option TV) (hn : n ≤ 100000)
    (step : ∀ i, i < n → compTurnT G n0 ie t iif (wipeT σ own) w i R1 = .ok (some (g i)) R1) (stop : compTurnT G n0 ie t iif (wipeT σ own) w n R1 = .ok none R1) : evE G n0 (.comp r ie t it iif own) σ R = alloc r (.lst ((List.range n).filterMap g)) R1 := by
  rw [evE_comp, hw, Rz.bind_ok, comp_pure n g hn step stop] <;> rfl
theorem ev_map {G : Ga} {n0 : Nat} {ie iif : Ex} {t : Tg} {it : It} {own : List Nat} {σ : Slots} {R R1 : Rs} {r : Bool} {w : Wk} (hw : evI G n0 it σ R = .ok w R1) (n : Nat) (g : Nat → TV) (hn : n ≤ 100000)
    (step : ∀ i, i < n → compTurnT G n0 ie t iif (wipeT σ own) w i R1 = .ok (some (some (g i))) R1) (stop : compTurnT G n0 ie t iif (wipeT σ own) w n R1 = .ok none R1) : evE G n0 (.comp r ie t it iif own) σ R = alloc r (.lst ((List.range n).map g)) R1 := by
  rw [ev_comp hw n (fun i => some (g i)) hn step stop]
  congr 2
  simp
theorem turn_end {G : Ga} {n0 : Nat} {ie iif : Ex} {t : Tg} {σ : Slots} {R : Rs} {w : Wk} {i : Nat} (h : w.at i R = some none) : compTurnT G n0 ie t iif σ w i R = .ok none R := by unfold compTurnT; rw [h]
theorem turn_at {G : Ga} {n0 : Nat} {ie iif : Ex} {t : Tg} {σ : Slots} {R : Rs} {w : Wk} {i : Nat} {v : TV} (h : w.at i R = some (some v)) : compTurnT G n0 ie t iif σ w i R = (evT G n0 t v σ R).bind fun σ1 R1 => (evB G n0 iif σ1 R1).bind fun k R2 => match k with
  | true => (evE G n0 ie σ1 R2).bind fun x R3 => .ok (some (some x)) R3
  | false => .ok (some none) R2 := by unfold compTurnT; rw [h] <;> rfl
theorem run_eq {P : Pg} {d n0 i : Nat} {F : Fn} (h : P.fns i = some F) (vs : List TV) (R : Rs) : callD P (d + 1) n0 i vs R = runFn (gOf P d) F n0 vs R := by
  show (match P.fns i with
    | some F => runFn (gOf P d) F n0 vs R
    | none => .no) = _
  rw [h]
theorem bi_len {r : Bool} {x : TV} {n : Nat} {R : Rs} (h : lenV R x = some n) : biV .len r [x] R = .ok (.int (n : Int)) R := by
  unfold biV
  simp only [h]
  rfl
@[simp] theorem bi_lenL (r : Bool) (xs : List TV) (R : Rs) : biV .len r [.lst xs] R = .ok (.int (xs.length : Int)) R := bi_len rfl
@[simp] theorem bi_lenT (r : Bool) (xs : List TV) (R : Rs) : biV .len r [.tup xs] R = .ok (.int (xs.length : Int)) R := bi_len rfl
@[simp] theorem bi_abs (r : Bool) (i : Int) (R : Rs) : biV .abs r [.int i] R = .ok (.int (if i < 0 then -i else i)) R := rfl
@[simp] theorem bi_max2 (r : Bool) (i j : Int) (R : Rs) : biV .max r [.int i, .int j] R = .ok (.int (if j > i then j else i)) R := rfl
@[simp] theorem bi_min2 (r : Bool) (i j : Int) (R : Rs) : biV .min r [.int i, .int j] R = .ok (.int (if j < i then j else i)) R := rfl
@[simp] theorem bi_int (r : Bool) (i : Int) (R : Rs) : biV .int r [.int i] R = .ok (.int i) R := rfl
@[simp] theorem bi_intb (r : Bool) (i : Bool) (R : Rs) : biV .int r [.bl i] R = .ok (.int (if i then 1 else 0)) R := rfl
@[simp] theorem bi_divmod (r : Bool) (i j : Int) (R : Rs) : biV .divmod r [.int i, .int j] R = guardR (decide (0 < j ∧ j < 1073741824)) (.ok (.tup [.int (i / j), .int (i % j)]) R) := rfl
theorem bi_maxT (r : Bool) {xs : List TV} {m : Int} {ms : List Int} (R : Rs) (h : intsOf xs = some (m :: ms)) : biV .max r [.tup xs] R = .ok (.int (maxI m ms)) R := by
  show (match intsOf xs with
    | some (m :: ms) => Rz.ok (TV.int (maxI m ms)) R
    | _ => Rz.no) = _
  rw [h]
theorem bi_maxL (r : Bool) {xs : List TV} {m : Int} {ms : List Int} (R : Rs) (h : intsOf xs = some (m :: ms)) : biV .max r [.lst xs] R = .ok (.int (maxI m ms)) R := by
  show (match intsOf xs with
    | some (m :: ms) => Rz.ok (TV.int (maxI m ms)) R
    | _ => Rz.no) = _
  rw [h]
theorem bi_all (r : Bool) {xs : List TV} {bs : List Bool} (R : Rs) (h : blsOf xs = some bs) : biV .all r [.lst xs] R = .ok (.bl (bs.all id)) R := by
  show (match blsOf xs with
    | some bs => Rz.ok (TV.bl (bs.all id)) R
    | none => Rz.no) = _
  rw [h]
@[simp] theorem bi_listT (r : Bool) (xs : List TV) (R : Rs) : biV .list r [.tup xs] R = alloc r (.lst xs) R := rfl
@[simp] theorem bi_listL (r : Bool) (xs : List TV) (R : Rs) : biV .list r [.lst xs] R = alloc r (.lst xs) R := rfl
@[simp] theorem bi_tupT (r : Bool) (xs : List TV) (R : Rs) : biV .tuple r [.tup xs] R = .ok (.tup xs) R := rfl
@[simp] theorem bi_tupL (r : Bool) (xs : List TV) (R : Rs) : biV .tuple r [.lst xs] R = .ok (.tup xs) R := rfl
@[simp] theorem len_lst (xs : List TV) (R : Rs) : lenV R (.lst xs) = some xs.length := rfl
@[simp] theorem len_tup (xs : List TV) (R : Rs) : lenV R (.tup xs) = some xs.length := rfl
theorem len_root {k : Nat} {xs : List TV} {R : Rs} (h : R[k]? = some (.lst xs)) : lenV R (.root k) = some xs.length := by
  show (match asL R (.root k) with
    | some xs => some xs.length
    | none => match asD R (.root k) with
      | some kvs => some kvs.length
      | none => none) = _
  have e : asL R (.root k) = some xs := by
    show (match R[k]? with
      | some (.lst xs) => some xs
      | _ => none) = _
    rw [h]
  rw [e]
@[simp] theorem asL_lst (xs : List TV) (R : Rs) : asL R (.lst xs) = some xs := rfl
@[simp] theorem asLm_lst (xs : List TV) (R : Rs) : asLm R (.lst xs) = some xs := rfl
@[simp] theorem asL_tup (xs : List TV) (R : Rs) : asL R (.tup xs) = none := rfl
@[simp] theorem asT_tup (xs : List TV) : asT (.tup xs) = some xs := rfl
@[simp] theorem asT_lst (xs : List TV) : asT (.lst xs) = none := rfl
@[simp] theorem asT_root (k : Nat) : asT (.root k) = none := rfl
theorem asL_root {k : Nat} {xs : List TV} {R : Rs} (h : R[k]? = some (.lst xs)) : asL R (.root k) = some xs := by
  show (match R[k]? with
    | some (.lst xs) => some xs
    | _ => none) = _
  rw [h]
theorem asLm_root {k : Nat} {xs : List TV} {R : Rs} (h : R[k]? = some (.lst xs)) : asLm R (.root k) = some xs := asL_root h
@[simp] theorem alloc_f (o : RO) (R : Rs) : alloc false o R = .ok (treeOf o) R := rfl
@[simp] theorem alloc_t (o : RO) (R : Rs) : alloc true o R = .ok (.root R.length) (R ++ [o]) := rfl
@[simp] theorem tree_lst (xs : List TV) : treeOf (.lst xs) = .lst xs := rfl
@[simp] theorem cmp_lt (i j : Int) (R : Rs) : cmpV .Lt (.int i) (.int j) R = some (decide (i < j)) := rfl
@[simp] theorem cmp_le (i j : Int) (R : Rs) : cmpV .LtE (.int i) (.int j) R = some (decide (i ≤ j)) := rfl
@[simp] theorem cmp_gt (i j : Int) (R : Rs) : cmpV .Gt (.int i) (.int j) R = some (decide (j < i)) := rfl
@[simp] theorem cmp_ge (i j : Int) (R : Rs) : cmpV .GtE (.int i) (.int j) R = some (decide (j ≤ i)) := rfl
@[simp] theorem cmp_eq (x y : TV) (R : Rs) : cmpV .Eq x y R = eqT R x y := rfl
@[simp] theorem cmp_ne (x y : TV) (R : Rs) : cmpV .NotEq x y R = (eqT R x y).map (!·) := rfl
open PySem PySem.Spec PyProof.Rows L2 in
@[simp] theorem eqT_int (R : Rs) (i j : Int) : eqT R (.int i) (.int j) = some (decide (i = j)) := by
  show guardO (SeqAt.shaped (.int i) && SeqAt.shaped (.int j)) (some (PySem.PyData.eqv (.int i) (.int j))) = _
  have e1 : SeqAt.shaped (.int i) = true := rfl
  have e2 : SeqAt.shaped (.int j) = true := rfl
  rw [e1, e2]
  show some (PySem.PyData.eqv (.int i) (.int j)) = _
  congr 1
@[simp] theorem add_int (r : Bool) (i j : Int) (R : Rs) : binV .Add r (.int i) (.int j) R = .ok (.int (i + j)) R := rfl
@[simp] theorem sub_int (r : Bool) (i j : Int) (R : Rs) : binV .Sub r (.int i) (.int j) R = .ok (.int (i - j)) R := rfl
@[simp] theorem mul_int (r : Bool) (i j : Int) (R : Rs) : binV .Mult r (.int i) (.int j) R = guardR (decide (-(2 ^ 64) < i ∧ i < 2 ^ 64) || decide (-(2 ^ 64) < j ∧ j < 2 ^ 64)) (.ok (.int (i * j)) R) := rfl
@[simp] theorem div_int (r : Bool) (i j : Int) (R : Rs) : binV .FloorDiv r (.int i) (.int j) R = guardR (decide (0 < j ∧ j < 1073741824)) (.ok (.int (i / j)) R) := rfl
@[simp] theorem mod_int (r : Bool) (i j : Int) (R : Rs) : binV .Mod r (.int i) (.int j) R = guardR (decide (0 < j)) (.ok (.int (i % j)) R) := rfl
@[simp] theorem pow_int (r : Bool) (i j : Int) (R : Rs) : binV .Pow r (.int i) (.int j) R = guardR (decide (0 ≤ j ∧ j ≤ 1000000 ∧ i.natAbs < 2 ^ 64)) (.ok (.int (i ^ j.toNat)) R) := rfl
theorem add_lst {r : Bool} {xs ys : List TV} {R : Rs} (h : xs.length + ys.length ≤ PySem.sizeLine) : binV .Add r (.lst xs) (.lst ys) R = alloc r (.lst (xs ++ ys)) R := by
  show guardR (decide (xs.length + ys.length ≤ PySem.sizeLine)) (alloc r (.lst (xs ++ ys)) R) = _
  rw [decide_eq_true h] <;> rfl
theorem ix_of {xs : List TV} {i : Nat} {v : TV} (h : xs[i]? = some v) : L2.atI xs (i : Int) = some v := by
  have hi := (List.getElem?_eq_some_iff.mp h).1
  unfold L2.atI L2.ixN
  rw [if_pos (by omega), if_pos (by omega)]
  simpa using h
@[simp] theorem ixV_tup (xs : List TV) (i : Int) (R : Rs) : ixV R (.tup xs) (.int i) = L2.atI xs i := rfl
@[simp] theorem ixV_lst (xs : List TV) (i : Int) (R : Rs) : ixV R (.lst xs) (.int i) = L2.atI xs i := rfl
@[simp] theorem ixV_klst (xs : List TV) (i : Int) (R : Rs) : ixV R (.klst xs) (.int i) = L2.atI xs i := rfl
theorem ixV_root {k : Nat} {xs : List TV} {R : Rs} (i : Int) (h : R[k]? = some (.lst xs)) : ixV R (.root k) (.int i) = L2.atI xs i := by
  have e := asL_root h
  unfold ixV
  simp only [e]
@[simp] theorem at_tup (xs : List TV) (i : Nat) (R : Rs) : Wk.at (.tup xs) i R = some xs[i]? := rfl
@[simp] theorem at_lst (xs : List TV) (i : Nat) (R : Rs) : Wk.at (.lst (.lst xs)) i R = some xs[i]? := rfl
@[simp] theorem at_rng (lo : Int) (n i : Nat) (R : Rs) : Wk.at (.rng lo n) i R = some (if i < n then some (.int (lo + i)) else none) := rfl
@[simp] theorem at_enumT (xs : List TV) (i : Nat) (R : Rs) : Wk.at (.enumT xs) i R = some (xs[i]?.map fun x => .tup [.int i, x]) := rfl
@[simp] theorem at_enum (xs : List TV) (i : Nat) (R : Rs) : Wk.at (.enum (.lst xs)) i R = some (xs[i]?.map fun x => .tup [.int i, x]) := rfl
theorem ev_rng0 (n : Int) (b : Bool) (hb : decide (-(2 ^ 62) ≤ n ∧ n < 2 ^ 62) = b) {G : Ga} {n1 : Nat} {e : Ex} {σ : Slots} {R R1 : Rs} (h : evE G n1 e σ R = .ok (.int n) R1) : evI G n1 (.rng1 e) σ R = guardR b (.ok (.rng 0 n.toNat) R1) := by
  subst hb
  rw [eI_rng1, h]
  rfl
/-- range(e) -/
theorem ev_rng {n : Nat} (hn : n ≤ 100000) {G : Ga} {n1 : Nat} {e : Ex} {σ : Slots} {R R1 : Rs} (h : evE G n1 e σ R = .ok (.int (n : Int)) R1) : evI G n1 (.rng1 e) σ R = .ok (.rng 0 n) R1 := by
  have h1 : (n : Int) < 2 ^ 62 := by
    have e : (2 : Int) ^ 62 = 4611686018427387904 := by decide +kernel
    rw [e]; omega
  have h2 : -(2 ^ 62) ≤ (n : Int) := by
    have e : (2 : Int) ^ 62 = 4611686018427387904 := by decide +kernel
    rw [e]; omega
  have := ev_rng0 (n : Int) true (decide_eq_true ⟨h2, h1⟩) (G := G) (n1 := n1) (R := R) (R1 := R1) h
  rw [guardR_true] at this
  exact this
theorem run_tree {G : Ga} {F : Fn} {n0 : Nat} {vs : List TV} {R : Rs} (b : Sms) (σ0 : Slots) (hb : F.body = b) (hk : F.endk = .tree) (hn : vs.length = F.np) (hσ : vs.map some ++ List.replicate (F.slots - vs.length) none = σ0) :
    runFn G F n0 vs R = (evSs G R.length b σ0 R).bind fun r R1 => match retOf r with
      | some v => Pv.settle R.length v R1
      | none => .no := by
  subst hb hσ
  unfold runFn
  rw [hk, decide_eq_true hn, guardR_true]
  rfl
theorem run_root {G : Ga} {F : Fn} {n0 : Nat} {vs : List TV} {R : Rs} (b : Sms) (σ0 : Slots) (hb : F.body = b) (hk : F.endk = .root) (hn : vs.length = F.np) (hσ : vs.map some ++ List.replicate (F.slots - vs.length) none = σ0) :
    runFn G F n0 vs R = (evSs G R.length b σ0 R).bind fun r R1 => match retOf r with
      | some v => handOn R.length v R1
      | none => .no := by
  subst hb hσ
  unfold runFn
  rw [hk, decide_eq_true hn, guardR_true]
  rfl
theorem bi_listR {r : Bool} {k : Nat} {xs : List TV} {R : Rs} (h : R[k]? = some (.lst xs)) : biV .list r [.root k] R = alloc r (.lst xs) R := by
  have e := asL_root h
  show (match asL R (.root k) with
    | some xs => alloc r (.lst xs) R
    | none => Rz.no) = _
  rw [e]
theorem bi_tupR {r : Bool} {k : Nat} {xs : List TV} {R : Rs} (h : R[k]? = some (.lst xs)) : biV .tuple r [.root k] R = .ok (.tup xs) R := by
  have e := asL_root h
  show (match asL R (.root k) with
    | some xs => Rz.ok (TV.tup xs) R
    | none => Rz.no) = _
  rw [e]
theorem bi_maxR {r : Bool} {k : Nat} {xs : List TV} {m : Int} {ms : List Int} {R : Rs} (hk : R[k]? = some (.lst xs)) (h : intsOf xs = some (m :: ms)) : biV .max r [.root k] R = .ok (.int (maxI m ms)) R := by
  have e : intsL R (.root k) = some (m :: ms) := by
    unfold intsL
    rw [asL_root hk]
    exact h
  show (match intsL R (.root k) with
    | some (m :: ms) => Rz.ok (TV.int (maxI m ms)) R
    | _ => Rz.no) = _
  rw [e]
theorem at_root {k : Nat} {xs : List TV} {R : Rs} (h : R[k]? = some (.lst xs)) (i : Nat) : Wk.at (.lst (.root k)) i R = some xs[i]? := by
  show (asL R (.root k)).map (·[i]?) = _
  rw [asL_root h] <;> rfl
theorem at_enumR {k : Nat} {xs : List TV} {R : Rs} (h : R[k]? = some (.lst xs)) (i : Nat) : Wk.at (.enum (.root k)) i R = some (xs[i]?.map fun x => .tup [.int i, x]) := by
  show (asL R (.root k)).map (fun xs => xs[i]?.map fun x => TV.tup [.int i, x]) = _
  rw [asL_root h] <;> rfl
theorem at_zipR {k : Nat} {xs ys : List TV} {R : Rs} (h : R[k]? = some (.lst xs)) (i : Nat) : Wk.at (.zip (.root k) (.lst ys)) i R = some (match xs[i]?, ys[i]? with
    | some x, some y => some (.tup [x, y])
    | _, _ => none) := by
  show (match asL R (.root k), asL R (.lst ys) with
    | some xs, some ys => some (match xs[i]?, ys[i]? with
      | some x, some y => some (TV.tup [x, y])
      | _, _ => none)
    | _, _ => none) = _
  rw [asL_root h] <;> rfl
theorem slc_root {k : Nat} {xs : List TV} {R : Rs} (h : R[k]? = some (.lst xs)) (r : Bool) (lo hi : Option Int) : slcV r (.root k) lo hi R = alloc r (.lst (cutA xs lo hi)) R := by
  show (match asL R (.root k) with
    | some xs => alloc r (.lst (cutA xs lo hi)) R
    | none => Rz.no) = _
  rw [asL_root h]
theorem tag_root {k : Nat} {xs : List TV} {R : Rs} (h : R[k]? = some (.lst xs)) : tagOf R (.root k) = some (.inl .lst) := by
  show (match R[k]? with
    | some (.lst _) => some (Sum.inl Tgn.lst)
    | some (.dct _) => some (.inl .dct)
    | some (.ins c _) => some (.inr c)
    | none => none) = _
  rw [h]
end Pv

/-! P1: lists of small numbers as data: equality. -/
namespace Pv
open PySem PyProof.Rows
/-- a number as a value; a list of them -/
abbrev ti (n : Nat) : TV := .int (n : Int)
abbrev tis (ns : List Nat) : List TV := ns.map ti
def pds (ns : List Nat) : List PyData := ns.map fun (n : Nat) => PyData.int (n : Int)
/-- a pair of numbers; a list of pairs -/
abbrev tie (p : Nat × Nat) : TV := .tup [ti p.1, ti p.2]
abbrev ties (ps : List (Nat × Nat)) : List TV := ps.map tie
theorem subs_tis (f : Nat → Option TV) : ∀ ns : List Nat, subs f (tis ns) = some (tis ns)
  | [] => rfl
  | n :: ns => by
    have ih := subs_tis f ns
    show (match sub f (ti n), subs f (tis ns) with
      | some x, some xs => some (x :: xs)
      | _, _ => none) = _
    rw [ih] <;> rfl
theorem toDs_tis : ∀ ns : List Nat, toDs (tis ns) = some (pds ns)
  | [] => rfl
  | n :: ns => by
    have ih := toDs_tis ns
    show (match toD (ti n), toDs (tis ns) with
      | some d, some ds => some (d :: ds)
      | _, _ => none) = _
    rw [ih] <;> rfl
theorem data_tis (R : Rs) (ns : List Nat) : dataOf R (.lst (tis ns)) = some (.list (pds ns)) := by
  unfold dataOf
  show ((subs (rootT R 0 R.length deepN) (tis ns)).map TV.lst).bind toD = _
  rw [subs_tis]
  show (toDs (tis ns)).map PyData.list = _
  rw [toDs_tis] <;> rfl
theorem can_pds : ∀ ns : List Nat, PyData.canLayAll0 (pds ns) = true
  | [] => by show PyData.canLayAll0 [] = true; unfold PyData.canLayAll0; rfl
  | n :: ns => by
    show PyData.canLayAll0 (PyData.int n :: pds ns) = true
    unfold PyData.canLayAll0
    rw [can_pds ns]
    show (PyData.canLay0 (PyData.int n) && true) = true
    unfold PyData.canLay0
    rfl
theorem eqv_pds : ∀ as bs : List Nat, PyData.eqvAll (pds as) (pds bs) = decide (as = bs)
  | [], [] => by show PyData.eqvAll [] [] = _; unfold PyData.eqvAll; rfl
  | [], b :: bs => by show PyData.eqvAll [] (PyData.int b :: pds bs) = _; unfold PyData.eqvAll; rfl
  | a :: as, [] => by show PyData.eqvAll (PyData.int a :: pds as) [] = _; unfold PyData.eqvAll; rfl
  | a :: as, b :: bs => by
    show PyData.eqvAll (PyData.int a :: pds as) (PyData.int b :: pds bs) = _
    unfold PyData.eqvAll
    rw [eqv_pds as bs]
    have e : PyData.eqv (.int a) (.int b) = decide ((a : Int) = b) := by unfold PyData.eqv; rfl
    rw [e]
    by_cases h : a = b
    · subst h; simp
    · have h2 : ¬ ((a : Int) = b) := by omega
      simp [h, h2]
theorem depth_pds : ∀ ns : List Nat, PyData.depthAll (pds ns) = 0
  | [] => by show PyData.depthAll [] = 0; unfold PyData.depthAll; rfl
  | n :: ns => by
    show PyData.depthAll (PyData.int n :: pds ns) = 0
    unfold PyData.depthAll
    rw [depth_pds ns]
    unfold PyData.depth
    rfl
theorem shaped_pds (ns : List Nat) : SeqAt.shaped (.list (pds ns)) = true := by
  unfold SeqAt.shaped
  have e1 : PyData.canLay0 (.list (pds ns)) = true := by unfold PyData.canLay0; exact can_pds ns
  have e2 : PyData.depth (.list (pds ns)) ≤ 64 := by
    unfold PyData.depth
    rw [depth_pds]; omega
  rw [e1, decide_eq_true e2] <;> rfl
/-- lists of numbers compared -/
theorem eqT_tis (R : Rs) (as bs : List Nat) : eqT R (.lst (tis as)) (.lst (tis bs)) = some (decide (as = bs)) := by
  unfold eqT
  rw [data_tis, data_tis]
  show guardO (SeqAt.shaped (.list (pds as)) && SeqAt.shaped (.list (pds bs))) (some (PyData.eqv (.list (pds as)) (.list (pds bs)))) = _
  rw [shaped_pds, shaped_pds]
  show some (PyData.eqv (.list (pds as)) (.list (pds bs))) = _
  have e : PyData.eqv (.list (pds as)) (.list (pds bs)) = PyData.eqvAll (pds as) (pds bs) := by
    rw [PyData.eqv]
  rw [e, eqv_pds]
end Pv

/-! P2: big steps of the evaluator, as terms. -/
namespace Pv
open PySem PyProof.Rows
section
variable {G : Ga} {n0 : Nat} {σ σ1 σ2 : Slots} {R R1 R2 R3 : Rs} {a b c e o : Ex} {as es ks kvs : Exs} {lo hi : Ox} {v x y z : TV} {vs : List TV} {t : Tg} {s : Sm} {ss s1 s2 : Sms} {f j k : Nat} {m : Mt} {r : Bool}
theorem v_ (h : σ[j]? = some (some v)) : evE G n0 (.var j) σ R = .ok v R := by rw [eE_var, h]
theorem es0 : evs G n0 .nil σ R = .ok [] R := es_nil
theorem esc (h : evE G n0 e σ R = .ok x R1) (h2 : evs G n0 es σ R1 = .ok vs R2) : evs G n0 (.cons e es) σ R = .ok (x :: vs) R2 := by rw [es_cons, h, Rz.bind_ok, h2, Rz.bind_ok]
theorem es1 (h : evE G n0 e σ R = .ok x R1) : evs G n0 (.cons e .nil) σ R = .ok [x] R1 := esc h es0
theorem es2 (h : evE G n0 a σ R = .ok x R1) (h2 : evE G n0 b σ R1 = .ok y R2) : evs G n0 (.cons a (.cons b .nil)) σ R = .ok [x, y] R2 := esc h (es1 h2)
theorem es3 (h : evE G n0 a σ R = .ok x R1) (h2 : evE G n0 b σ R1 = .ok y R2) (h3 : evE G n0 c σ R2 = .ok z R3) : evs G n0 (.cons a (.cons b (.cons c .nil))) σ R = .ok [x, y, z] R3 := esc h (es2 h2 h3)
theorem call_ (h : evs G n0 as σ R = .ok vs R1) (h2 : G.call n0 f vs R1 = .ok v R2) : evE G n0 (.call f as) σ R = .ok v R2 := by rw [eE_call, h, Rz.bind_ok, h2]
theorem callk_ {perm : List Nat} {zs us : List TV} (h : evs G n0 as σ R = .ok vs R1) (h1 : evs G n0 ks σ R1 = .ok zs R2) (hp : permT (vs ++ zs) perm = some us) (h2 : G.call n0 f us R2 = .ok v R3) : evE G n0 (.callk f as ks perm) σ R = .ok v R3 := by
  rw [eE_callk, h, Rz.bind_ok, h1, Rz.bind_ok, hp]
  exact h2
theorem make_ (h : evs G n0 as σ R = .ok vs R1) (h2 : makeV G n0 j vs R1 = .ok v R2) : evE G n0 (.make j as) σ R = .ok v R2 := by rw [eE_make, h, Rz.bind_ok, h2]
theorem bi_ {bb : Bi} (h : evs G n0 as σ R = .ok vs R1) (h2 : biV bb r vs R1 = .ok v R2) : evE G n0 (.bi bb r as) σ R = .ok v R2 := by rw [eE_bi, h, Rz.bind_ok, h2]
theorem mth_ (h : evE G n0 o σ R = .ok x R1) (hk : mtOk m x R1 = true) (h1 : evs G n0 as σ R1 = .ok vs R2) (h2 : mthV n0 m x vs R2 = .ok v R3) : evE G n0 (.mth m r o as) σ R = .ok v R3 := by
  rw [eE_mth, h, Rz.bind_ok, hk, guardR_true, h1, Rz.bind_ok, h2]
theorem sub_ (h : evE G n0 o σ R = .ok x R1) (h1 : evE G n0 b σ R1 = .ok y R2) (h2 : ixV R2 x y = some v) : evE G n0 (.sub o b) σ R = .ok v R2 := by
  rw [eE_sub, h, Rz.bind_ok, h1, Rz.bind_ok, h2] <;> rfl
theorem cmp_ {op : CmpOp} {q : Bool} (h : evE G n0 a σ R = .ok x R1) (h1 : evE G n0 b σ R1 = .ok y R2) (h2 : cmpV op x y R2 = some q) : evE G n0 (.cmp op a b) σ R = .ok (.bl q) R2 := by
  rw [eE_cmp, h, Rz.bind_ok, h1, Rz.bind_ok, h2] <;> rfl
theorem bin_ {op : Operator} (h : evE G n0 a σ R = .ok x R1) (h1 : evE G n0 b σ R1 = .ok y R2) (h2 : binV op r x y R2 = .ok v R3) : evE G n0 (.bin op r a b) σ R = .ok v R3 := by
  rw [eE_bin, h, Rz.bind_ok, h1, Rz.bind_ok, h2]
theorem tup_ (h : evs G n0 as σ R = .ok vs R1) (hl : vs.length ≤ 100000) : evE G n0 (.tup as) σ R = .ok (.tup vs) R1 := by
  rw [eE_tup, h, Rz.bind_ok, decide_eq_true (Nat.le_trans hl (by decide +kernel)), guardR_true]
theorem lst_ (h : evs G n0 as σ R = .ok vs R1) (hl : vs.length ≤ 100000) : evE G n0 (.lst r as) σ R = alloc r (.lst vs) R1 := by
  rw [eE_lst, h, Rz.bind_ok, decide_eq_true (Nat.le_trans hl (by decide +kernel)), guardR_true]
theorem lrng_ {n : Nat} (h : evE G n0 a σ R = .ok (ti n) R1) (hn : n < 1000000) : evE G n0 (.lrng r a) σ R = alloc r (.lst (tis (List.range n))) R1 := by
  rw [eE_lrng, h, Rz.bind_ok]
  show guardR (decide ((0 : Int) ≤ (n : Int) ∧ (n : Int) < 1000000)) (alloc r (.lst ((List.range (n : Int).toNat).map fun (i : Nat) => TV.int (i : Int))) R1) = _
  rw [decide_eq_true (by omega), guardR_true, Int.toNat_natCast] <;> rfl
theorem not_ {q : Bool} (h : evE G n0 a σ R = .ok x R1) (h2 : truV R1 x = some q) : evE G n0 (.not a) σ R = .ok (.bl (!q)) R1 := by
  rw [eE_not, h, Rz.bind_ok, h2] <;> rfl
theorem slc_ {l h' : Option Int} (h : evE G n0 o σ R = .ok x R1) (h1 : evO G n0 lo σ R1 = .ok l R2) (h2 : evO G n0 hi σ R2 = .ok h' R3) : evE G n0 (.slc r o lo hi) σ R = slcV r x l h' R3 := by
  rw [eE_slc, h, Rz.bind_ok, h1, Rz.bind_ok, h2, Rz.bind_ok]
theorem o1_ {i : Int} (h : evE G n0 a σ R = .ok (.int i) R1) : evO G n0 (.some a) σ R = .ok (some i) R1 := by rw [eO_some, h, Rz.bind_ok]
theorem asg_ (h : evE G n0 e σ R = .ok v R1) : evS G n0 (.asg (.name j) e) σ R = .ok (.nx, σ.set j (some v)) R1 := by rw [eS_asg, h, Rz.bind_ok, eT_name, Rz.bind_ok]
theorem asgt_ (h : evE G n0 e σ R = .ok v R1) (h2 : evT G n0 t v σ R1 = .ok σ1 R2) : evS G n0 (.asg t e) σ R = .ok (.nx, σ1) R2 := by rw [eS_asg, h, Rz.bind_ok, h2, Rz.bind_ok]
theorem tsub_ (h : evE G n0 o σ R = .ok x R1) (h1 : evE G n0 b σ R1 = .ok y R2) (h2 : putIx n0 x y v R2 = some R3) : evT G n0 (.sub o b) v σ R = .ok σ R3 := by rw [eT_sub, h, Rz.bind_ok, h1, Rz.bind_ok, h2]
theorem expr_ (h : evE G n0 e σ R = .ok v R1) : evS G n0 (.expr e) σ R = .ok (.nx, σ) R1 := by rw [eS_expr, h, Rz.bind_ok]
theorem par_ (h : evE G n0 a σ R = .ok x R1) (h2 : evE G n0 b σ R1 = .ok y R2) : evS G n0 (.par j k a b) σ R = .ok (.nx, (σ.set j (some x)).set k (some y)) R2 := by rw [eS_par, h, Rz.bind_ok, h2, Rz.bind_ok]
theorem if_t (h : evE G n0 c σ R = .ok (.bl true) R1) : evS G n0 (.ifs c s1 s2) σ R = evSs G n0 s1 σ R1 := by rw [eS_ifs, h, Rz.bind_ok] <;> rfl
theorem if_f (h : evE G n0 c σ R = .ok (.bl false) R1) : evS G n0 (.ifs c s1 s2) σ R = evSs G n0 s2 σ R1 := by rw [eS_ifs, h, Rz.bind_ok] <;> rfl
theorem nx_ {q : Fl × Slots} (h : evS G n0 s σ R = .ok (.nx, σ1) R1) (h2 : evSs G n0 ss σ1 R1 = .ok q R2) : evSs G n0 (.cons s ss) σ R = .ok q R2 := by rw [eSs_cons, h, Rz.bind_ok]; exact h2
theorem nil_ : evSs G n0 .nil σ R = .ok (.nx, σ) R := eSs_nil
theorem ret_ (h : evE G n0 e σ R = .ok v R1) : evSs G n0 (.cons (.ret e) ss) σ R = .ok (.rt v, σ) R1 := by rw [eSs_cons, eS_ret, h, Rz.bind_ok] <;> rfl
/-- a for's turn -/
theorem turn_ {w : Wk} {i : Nat} {q : Fl × Slots} (hw : w.at i R = some (some v)) (ht : evT G n0 t v σ R = .ok σ1 R1) (hs : evSs G n0 ss σ1 R1 = .ok q R2) : forTurn G n0 t ss w i σ R = .ok (some q) R2 := by
  unfold forTurn
  rw [hw]
  show (evT G n0 t v σ R).bind _ = _
  rw [ht, Rz.bind_ok, hs, Rz.bind_ok]
theorem fin_ {w : Wk} {i : Nat} (hw : w.at i R = some none) : forTurn G n0 t ss w i σ R = .ok none R := by
  unfold forTurn
  rw [hw]
end
end Pv

/-! Printed by gen.py: the law's defs as the evaluator's language, and their bodies by rules. -/
namespace K63
open PySem PySem.Spec PyProof.Rows L2 Pv
def top (i : Nat) : Stmt := PySem.Challenge.pw_suretexts_k63_whole_times_in_a_round.main.body.getD i (.Pass ⟨0, 0, 0, 0⟩)
abbrev s_0 : Stmt := top 9
abbrev s_1 : Stmt := top 10
abbrev s_2 : Stmt := top 11
abbrev s_3 : Stmt := top 17
abbrev s_4 : Stmt := inClass (top 18) 0
abbrev s_5 : Stmt := top 19
abbrev s_6 : Stmt := top 20
abbrev s_7 : Stmt := top 21
abbrev s_8 : Stmt := top 22
abbrev s_9 : Stmt := top 23
abbrev s_10 : Stmt := top 24
abbrev s_11 : Stmt := top 26
abbrev s_12 : Stmt := top 27
abbrev s_13 : Stmt := top 29
abbrev s_14 : Stmt := top 30
abbrev s_15 : Stmt := top 31
abbrev s_16 : Stmt := top 32
abbrev s_17 : Stmt := top 33
abbrev s_18 : Stmt := top 34
abbrev s_19 : Stmt := top 35
/-- is_integer -/
def bd_0 : Sms := .cons (.ret (.and (.isa (.var 0) [.ty .int]) (.not (.isa (.var 0) [.ty .bl])))) (.nil)
abbrev fn_0 : Fn := ⟨1, 1, bd_0, .tree⟩
abbrev nm_0 : List Str := ["value"]
abbrev ps_0 : List Str := ["value"]
/-- is_count -/
def bd_1 : Sms := .cons (.ret (.and (.call 0 (.cons (.var 0) (.nil))) (.cmp .GtE (.var 0) (.cst (.int 0))))) (.nil)
abbrev fn_1 : Fn := ⟨1, 1, bd_1, .tree⟩
abbrev nm_1 : List Str := ["value"]
abbrev ps_1 : List Str := ["value"]
/-- is_list -/
def bd_2 : Sms := .cons (.ret (.isa (.var 0) [.ty .lst, .ty .tup])) (.nil)
abbrev fn_2 : Fn := ⟨1, 1, bd_2, .tree⟩
abbrev nm_2 : List Str := ["value"]
abbrev ps_2 : List Str := ["value"]
/-- is_tie_value -/
def bd_3 : Sms := .cons (.ifs (.or (.not (.isa (.var 1) [.ty .tup])) (.or (.cmp .NotEq (.bi .len false (.cons (.var 1) (.nil))) (.cst (.int 2))) (.not (.bi .all false (.cons (.comp false (.call 1 (.cons (.var 2) (.nil))) (.name 2) (.val (.var 1)) (.cst (.bl true)) [2]) (.nil)))))) (.cons (.ret (.cst (.bl false))) (.nil)) (.nil)) (.cons (.ret (.cmp .Lt (.bi .max false (.cons (.var 1) (.nil))) (.var 0))) (.nil))
abbrev fn_3 : Fn := ⟨2, 3, bd_3, .tree⟩
abbrev nm_3 : List Str := ["places", "value", "one"]
abbrev ps_3 : List Str := ["places", "value"]
/-- Web.__init__ -/
def bd_4 : Sms := .cons (.ifs (.or (.not (.call 1 (.cons (.var 1) (.nil)))) (.not (.chn .LtE .LtE (.cst (.int 1)) (.var 1) (.cst (.int 60))))) (.cons (.stuck) (.nil)) (.nil)) (.cons (.ifs (.or (.not (.call 2 (.cons (.var 2) (.nil)))) (.or (.cmp .Gt (.bi .len false (.cons (.var 2) (.nil))) (.cst (.int 80))) (.not (.bi .all false (.cons (.comp false (.call 3 (.cons (.var 1) (.cons (.var 6) (.nil)))) (.name 6) (.val (.var 2)) (.cst (.bl true)) [6]) (.nil)))))) (.cons (.stuck) (.nil)) (.nil)) (.cons (.asg (.fld (.var 0) "own_places") (.var 1)) (.cons (.asg (.fld (.var 0) "own_ties") (.bi .tuple false (.cons (.var 2) (.nil)))) (.cons (.asg (.fld (.var 0) "own_from") (.comp true (.lst true (.nil)) (.name 7) (.rng1 (.var 1)) (.cst (.bl true)) [7])) (.cons (.asg (.fld (.var 0) "own_to") (.comp true (.lst true (.nil)) (.name 7) (.rng1 (.var 1)) (.cst (.bl true)) [7])) (.cons (.for (.tup (.cons (.name 3) (.cons (.tup (.cons (.name 4) (.cons (.name 5) (.nil)))) (.nil)))) (.enum (.fld (.var 0) "own_ties")) (.cons (.expr (.mth .append false (.sub (.fld (.var 0) "own_from") (.var 4)) (.cons (.var 3) (.nil)))) (.cons (.expr (.mth .append false (.sub (.fld (.var 0) "own_to") (.var 5)) (.cons (.var 3) (.nil)))) (.nil)))) (.nil)))))))
abbrev fn_4 : Fn := ⟨3, 8, bd_4, .keep⟩
abbrev nm_4 : List Str := ["self", "places", "ties", "number", "begin", "end", "tie", "place"]
abbrev ps_4 : List Str := ["self", "places", "ties"]
/-- want_web -/
def bd_5 : Sms := .cons (.ifs (.not (.isa (.var 0) [.own 0])) (.cons (.stuck) (.nil)) (.nil)) (.cons (.ret (.var 0)) (.nil))
abbrev fn_5 : Fn := ⟨1, 1, bd_5, .tree⟩
abbrev nm_5 : List Str := ["value"]
abbrev ps_5 : List Str := ["value"]
/-- are_joined_ties -/
def bd_6 : Sms := .cons (.ifs (.or (.not (.call 2 (.cons (.var 1) (.nil)))) (.or (.not (.chn .LtE .LtE (.cst (.int 1)) (.bi .len false (.cons (.var 1) (.nil))) (.var 2))) (.not (.bi .all false (.cons (.comp false (.call 1 (.cons (.var 3) (.nil))) (.name 3) (.val (.var 1)) (.cst (.bl true)) [3]) (.nil)))))) (.cons (.ret (.cst (.bl false))) (.nil)) (.nil)) (.cons (.ifs (.cmp .GtE (.bi .max false (.cons (.var 1) (.nil))) (.bi .len false (.cons (.fld (.var 0) "own_ties") (.nil)))) (.cons (.ret (.cst (.bl false))) (.nil)) (.nil)) (.cons (.ret (.bi .all false (.cons (.comp false (.cmp .Eq (.sub (.sub (.fld (.var 0) "own_ties") (.var 4)) (.cst (.int 1))) (.sub (.sub (.fld (.var 0) "own_ties") (.var 5)) (.cst (.int 0)))) (.tup (.cons (.name 4) (.cons (.name 5) (.nil)))) (.zip (.var 1) (.slc false (.var 1) (.some (.cst (.int 1))) (.none))) (.cst (.bl true)) [4, 5]) (.nil)))) (.nil)))
abbrev fn_6 : Fn := ⟨3, 6, bd_6, .tree⟩
abbrev nm_6 : List Str := ["web", "value", "most", "one", "near", "far"]
abbrev ps_6 : List Str := ["web", "value", "most"]
/-- is_walk_value -/
def bd_7 : Sms := .cons (.ret (.call 6 (.cons (.var 0) (.cons (.var 1) (.cons (.cst (.int 400)) (.nil)))))) (.nil)
abbrev fn_7 : Fn := ⟨2, 2, bd_7, .tree⟩
abbrev nm_7 : List Str := ["web", "value"]
abbrev ps_7 : List Str := ["web", "value"]
/-- is_round_value -/
def bd_8 : Sms := .cons (.ifs (.not (.call 6 (.cons (.var 0) (.cons (.var 1) (.cons (.cst (.int 200000)) (.nil)))))) (.cons (.ret (.cst (.bl false))) (.nil)) (.nil)) (.cons (.ret (.cmp .Eq (.sub (.sub (.fld (.var 0) "own_ties") (.sub (.var 1) (.cst (.int 0)))) (.cst (.int 0))) (.sub (.sub (.fld (.var 0) "own_ties") (.sub (.var 1) (.neg (.cst (.int 1))))) (.cst (.int 1))))) (.nil))
abbrev fn_8 : Fn := ⟨2, 2, bd_8, .tree⟩
abbrev nm_8 : List Str := ["web", "value"]
abbrev ps_8 : List Str := ["web", "value"]
/-- want_walk -/
def bd_9 : Sms := .cons (.ifs (.not (.call 7 (.cons (.var 0) (.cons (.var 1) (.nil))))) (.cons (.stuck) (.nil)) (.nil)) (.cons (.ret (.bi .list false (.cons (.var 1) (.nil)))) (.nil))
abbrev fn_9 : Fn := ⟨2, 2, bd_9, .tree⟩
abbrev nm_9 : List Str := ["web", "value"]
abbrev ps_9 : List Str := ["web", "value"]
/-- want_round -/
def bd_10 : Sms := .cons (.ifs (.not (.call 8 (.cons (.var 0) (.cons (.var 1) (.nil))))) (.cons (.stuck) (.nil)) (.nil)) (.cons (.ret (.bi .list false (.cons (.var 1) (.nil)))) (.nil))
abbrev fn_10 : Fn := ⟨2, 2, bd_10, .tree⟩
abbrev nm_10 : List Str := ["web", "value"]
abbrev ps_10 : List Str := ["web", "value"]
/-- times_by -/
def bd_11 : Sms := .cons (.asg (.tup (.cons (.name 2) (.cons (.name 3) (.nil)))) (.tup (.cons (.cst (.int 0)) (.cons (.bi .len false (.cons (.var 0) (.nil))) (.nil))))) (.cons (.for (.name 4) (.rng1 (.var 3)) (.cons (.ifs (.bi .all false (.cons (.comp false (.cmp .Eq (.sub (.var 0) (.bin .Mod false (.bin .Add false (.var 4) (.var 5)) (.var 3))) (.var 6)) (.tup (.cons (.name 5) (.cons (.name 6) (.nil)))) (.enum (.var 1)) (.cst (.bl true)) [5, 6]) (.nil))) (.cons (.asg (.name 2) (.bin .Add false (.var 2) (.cst (.int 1)))) (.nil)) (.nil)) (.nil))) (.cons (.ret (.var 2)) (.nil)))
abbrev fn_11 : Fn := ⟨2, 7, bd_11, .tree⟩
abbrev nm_11 : List Str := ["some", "walk", "found", "many", "at", "step", "tie"]
abbrev ps_11 : List Str := ["some", "walk"]
/-- times_in -/
def bd_12 : Sms := .cons (.asg (.name 3) (.call 5 (.cons (.var 0) (.nil)))) (.cons (.asg (.name 4) (.call 10 (.cons (.var 3) (.cons (.var 1) (.nil))))) (.cons (.ret (.call 11 (.cons (.var 4) (.cons (.call 9 (.cons (.var 3) (.cons (.var 2) (.nil)))) (.nil))))) (.nil)))
abbrev fn_12 : Fn := ⟨3, 5, bd_12, .tree⟩
abbrev nm_12 : List Str := ["web", "tour", "walk", "told", "some"]
abbrev ps_12 : List Str := ["web", "tour", "walk"]
/-- _law_pot -/
def bd_13 : Sms := .cons (.asg (.name 2) (.ifx (.cmp .Lt (.var 1) (.bi .len false (.cons (.var 0) (.nil)))) (.bi .abs false (.cons (.sub (.var 0) (.var 1)) (.nil))) (.bin .Add false (.bin .Mult false (.cst (.int 887)) (.var 1)) (.cst (.int 857))))) (.cons (.ret (.lst true (.cons (.bi .max true (.cons (.cst (.int 0)) (.cons (.bin .Sub false (.var 2) (.bin .Pow false (.cst (.int 10)) (.cst (.int 18)))) (.nil)))) (.cons (.bin .Add true (.bin .Mod false (.bi .int false (.cons (.bin .Add false (.bin .Add false (.bin .Mult false (.bin .Mod false (.bi .int false (.cons (.var 2) (.nil))) (.cst (.int 2147483549))) (.cst (.int 48271))) (.bin .Mult false (.cst (.int 8581)) (.var 1))) (.cst (.int 31))) (.nil))) (.cst (.int 2147483563))) (.cst (.int 1))) (.nil))))) (.nil))
abbrev fn_13 : Fn := ⟨2, 3, bd_13, .root⟩
abbrev nm_13 : List Str := ["_law_script", "_law_k", "_law_cell"]
abbrev ps_13 : List Str := ["_law_script", "_law_k"]
/-- _law_draw -/
def bd_14 : Sms := .cons (.ifs (.cmp .Gt (.sub (.var 0) (.cst (.int 0))) (.cst (.int 0))) (.cons (.asg (.tup (.cons (.sub (.var 0) (.cst (.int 0))) (.cons (.name 2) (.nil)))) (.bi .divmod false (.cons (.sub (.var 0) (.cst (.int 0))) (.cons (.var 1) (.nil))))) (.cons (.ret (.var 2)) (.nil))) (.nil)) (.cons (.asg (.sub (.var 0) (.cst (.int 1))) (.bin .Mod false (.bi .int false (.cons (.bin .Add false (.bin .Mult false (.sub (.var 0) (.cst (.int 1))) (.cst (.int 39373))) (.cst (.int 8581))) (.nil))) (.cst (.int 2147483587)))) (.cons (.ret (.bin .Mod false (.bi .int false (.cons (.bin .FloorDiv false (.bin .Mod false (.bi .int false (.cons (.bin .Mult false (.sub (.var 0) (.cst (.int 1))) (.sub (.var 0) (.cst (.int 1)))) (.nil))) (.cst (.int 2147483563))) (.cst (.int 19))) (.nil))) (.var 1))) (.nil)))
abbrev fn_14 : Fn := ⟨2, 3, bd_14, .tree⟩
abbrev nm_14 : List Str := ["_law_pot_here", "_law_many", "_law_digit"]
abbrev ps_14 : List Str := ["_law_pot_here", "_law_many"]
/-- _law_close -/
def bd_15 : Sms := .cons (.asg (.name 3) (.bin .Add false (.cst (.int 1)) (.call 14 (.cons (.var 0) (.cons (.var 1) (.nil)))))) (.cons (.par 4 5 (.lst true (.nil)) (.lrng true (.var 3))) (.cons (.whl (.cmp .NotEq (.var 5) (.lst false (.nil))) (.cons (.expr (.mth .append false (.var 4) (.cons (.mth .pop false (.var 5) (.cons (.call 14 (.cons (.var 0) (.cons (.bi .len false (.cons (.var 5) (.nil))) (.nil)))) (.nil))) (.nil)))) (.nil))) (.cons (.asg (.name 6) (.lzip true (.var 4) (.bin .Add false (.slc false (.var 4) (.some (.cst (.int 1))) (.none)) (.slc false (.var 4) (.none) (.some (.cst (.int 1))))))) (.cons (.for (.name 7) (.rng1 (.call 14 (.cons (.var 0) (.cons (.bin .Add false (.var 2) (.cst (.int 1))) (.nil))))) (.cons (.asg (.name 8) (.call 14 (.cons (.var 0) (.cons (.cst (.int 5)) (.nil))))) (.cons (.par 9 10 (.call 14 (.cons (.var 0) (.cons (.var 3) (.nil)))) (.call 14 (.cons (.var 0) (.cons (.var 3) (.nil))))) (.cons (.asg (.name 11) (.tup (.cons (.var 9) (.cons (.ifx (.cmp .Eq (.var 8) (.cst (.int 1))) (.var 9) (.var 10)) (.nil))))) (.cons (.ifs (.cmp .Eq (.var 8) (.cst (.int 0))) (.cons (.asg (.name 11) (.sub (.var 6) (.call 14 (.cons (.var 0) (.cons (.bi .len false (.cons (.var 6) (.nil))) (.nil)))))) (.nil)) (.nil)) (.cons (.expr (.mth .insert false (.var 6) (.cons (.call 14 (.cons (.var 0) (.cons (.bin .Add false (.bi .len false (.cons (.var 6) (.nil))) (.cst (.int 1))) (.nil)))) (.cons (.var 11) (.nil))))) (.nil))))))) (.cons (.ret (.tup (.cons (.var 3) (.cons (.var 6) (.nil))))) (.nil))))))
abbrev fn_15 : Fn := ⟨3, 12, bd_15, .tree⟩
abbrev nm_15 : List Str := ["_law_pot_here", "_law_most", "_law_more", "_law_places", "_law_order", "_law_left", "_law_ties", "_law_turn", "_law_way", "_law_near", "_law_far", "_law_tie"]
abbrev ps_15 : List Str := ["_law_pot_here", "_law_most", "_law_more"]
/-- _law_walk -/
def bd_16 : Sms := .cons (.asg (.name 3) (.lst true (.cons (.call 14 (.cons (.var 0) (.cons (.bi .len false (.cons (.var 1) (.nil))) (.nil)))) (.nil)))) (.cons (.whl (.cmp .Lt (.bi .len false (.cons (.var 3) (.nil))) (.var 2)) (.cons (.asg (.name 4) (.comp false (.var 5) (.tup (.cons (.name 5) (.cons (.name 6) (.nil)))) (.enum (.var 1)) (.cmp .Eq (.sub (.var 6) (.cst (.int 0))) (.sub (.sub (.var 1) (.sub (.var 3) (.neg (.cst (.int 1))))) (.cst (.int 1)))) [5, 6])) (.cons (.expr (.mth .append false (.var 3) (.cons (.sub (.var 4) (.call 14 (.cons (.var 0) (.cons (.bi .len false (.cons (.var 4) (.nil))) (.nil))))) (.nil)))) (.nil)))) (.cons (.ret (.var 3)) (.nil)))
abbrev fn_16 : Fn := ⟨3, 7, bd_16, .root⟩
abbrev nm_16 : List Str := ["_law_pot_here", "_law_ties", "_law_many", "_law_found", "_law_nexts", "_law_at", "_law_tie"]
abbrev ps_16 : List Str := ["_law_pot_here", "_law_ties", "_law_many"]
/-- _law_times -/
def bd_17 : Sms := .cons (.asg (.name 2) (.cst (.int 0))) (.cons (.for (.name 3) (.rng1 (.bi .len false (.cons (.var 0) (.nil)))) (.cons (.asg (.name 4) (.comp false (.var 5) (.tup (.cons (.name 5) (.cons (.name 6) (.nil)))) (.enum (.var 1)) (.cmp .NotEq (.sub (.var 0) (.bin .Mod false (.bin .Add false (.var 3) (.var 5)) (.bi .len false (.cons (.var 0) (.nil))))) (.var 6)) [5, 6])) (.cons (.asg (.name 2) (.bin .Add false (.var 2) (.bi .int false (.cons (.cmp .Eq (.var 4) (.lst false (.nil))) (.nil))))) (.nil)))) (.cons (.ret (.var 2)) (.nil)))
abbrev fn_17 : Fn := ⟨2, 7, bd_17, .tree⟩
abbrev nm_17 : List Str := ["_law_tour_here", "_law_walk_here", "_law_found", "_law_begin", "_law_bad", "_law_at", "_law_tie"]
abbrev ps_17 : List Str := ["_law_tour_here", "_law_walk_here"]
/-- _law_tour -/
def bd_18 : Sms := .cons (.asg (.name 3) (.call 16 (.cons (.var 0) (.cons (.var 2) (.cons (.bin .Add false (.cst (.int 1)) (.call 14 (.cons (.var 0) (.cons (.cst (.int 9)) (.nil))))) (.nil)))))) (.cons (.asg (.name 4) (.dctp true (.cons (.sub (.sub (.var 2) (.sub (.var 3) (.cst (.int 0)))) (.cst (.int 0))) (.cons (.cst (.int 0)) (.nil))))) (.cons (.for (.name 5) (.rng1 (.var 1)) (.cons (.for (.tup (.cons (.name 6) (.cons (.name 7) (.nil)))) (.val (.var 2)) (.cons (.ifs (.cmp .In (.var 7) (.var 4)) (.cons (.asg (.sub (.var 4) (.var 6)) (.bi .min false (.cons (.mth .get false (.var 4) (.cons (.var 6) (.cons (.cst (.int 99)) (.nil)))) (.cons (.bin .Add false (.sub (.var 4) (.var 7)) (.cst (.int 1))) (.nil))))) (.nil)) (.nil)) (.nil))) (.nil))) (.cons (.whl (.cmp .NotEq (.sub (.sub (.var 2) (.sub (.var 3) (.neg (.cst (.int 1))))) (.cst (.int 1))) (.sub (.sub (.var 2) (.sub (.var 3) (.cst (.int 0)))) (.cst (.int 0)))) (.cons (.asg (.name 8) (.sub (.sub (.var 2) (.sub (.var 3) (.neg (.cst (.int 1))))) (.cst (.int 1)))) (.cons (.asg (.name 9) (.comp false (.var 10) (.tup (.cons (.name 10) (.cons (.name 11) (.nil)))) (.enum (.var 2)) (.and (.cmp .Eq (.sub (.var 11) (.cst (.int 0))) (.var 8)) (.cmp .Lt (.sub (.var 4) (.sub (.var 11) (.cst (.int 1)))) (.sub (.var 4) (.var 8)))) [10, 11])) (.cons (.expr (.mth .append false (.var 3) (.cons (.sub (.var 9) (.cst (.int 0))) (.nil)))) (.nil))))) (.cons (.ret (.var 3)) (.nil)))))
abbrev fn_18 : Fn := ⟨3, 12, bd_18, .tree⟩
abbrev nm_18 : List Str := ["_law_pot_here", "_law_places", "_law_ties", "_law_found", "_law_levels", "_law_turn", "_law_near", "_law_far", "_law_here", "_law_best", "_law_at", "_law_tie"]
abbrev ps_18 : List Str := ["_law_pot_here", "_law_places", "_law_ties"]
/-- law -/
def bd_19 : Sms := .cons (.asg (.name 1) (.call 13 (.cons (.var 0) (.cons (.cst (.int 0)) (.nil))))) (.cons (.asg (.tup (.cons (.name 2) (.cons (.name 3) (.nil)))) (.call 15 (.cons (.var 1) (.cons (.cst (.int 4)) (.cons (.cst (.int 4)) (.nil)))))) (.cons (.asg (.tup (.cons (.name 4) (.cons (.name 5) (.nil)))) (.tup (.cons (.make 0 (.cons (.var 2) (.cons (.var 3) (.nil)))) (.cons (.call 18 (.cons (.var 1) (.cons (.var 2) (.cons (.var 3) (.nil))))) (.nil))))) (.cons (.asg (.name 6) (.bi .repr false (.cons (.var 5) (.nil)))) (.cons (.for (.name 7) (.rng1 (.cst (.int 6))) (.cons (.asg (.name 8) (.call 16 (.cons (.var 1) (.cons (.var 3) (.cons (.bin .Add false (.cst (.int 1)) (.call 14 (.cons (.var 1) (.cons (.cst (.int 3)) (.nil))))) (.nil)))))) (.cons (.ifs (.cmp .Lt (.var 7) (.cst (.int 4))) (.cons (.asg (.tup (.cons (.name 9) (.cons (.name 10) (.nil)))) (.tup (.cons (.call 14 (.cons (.var 1) (.cons (.bi .len false (.cons (.var 5) (.nil))) (.nil)))) (.cons (.bin .Add false (.cst (.int 1)) (.call 14 (.cons (.var 1) (.cons (.cst (.int 12)) (.nil))))) (.nil))))) (.cons (.asg (.name 8) (.comp false (.sub (.var 5) (.bin .Mod false (.bin .Add false (.var 9) (.var 13)) (.bi .len false (.cons (.var 5) (.nil))))) (.name 13) (.rng1 (.var 10)) (.cst (.bl true)) [13])) (.nil))) (.nil)) (.cons (.par 11 12 (.call 17 (.cons (.var 5) (.cons (.var 8) (.nil)))) (.call 14 (.cons (.var 1) (.cons (.bi .len false (.cons (.var 5) (.nil))) (.nil))))) (.cons (.ifs (.cmp .NotEq (.callk 12 .nil (.cons (.var 4) (.cons (.var 5) (.cons (.var 8) (.nil)))) [0, 1, 2]) (.var 11)) (.cons (.ret (.cst (.bl false))) (.nil)) (.nil)) (.cons (.ifs (.cmp .NotEq (.call 12 (.cons (.var 4) (.cons (.bi .tuple false (.cons (.bin .Add false (.slc false (.var 5) (.some (.var 12)) (.none)) (.slc false (.var 5) (.none) (.some (.var 12)))) (.nil))) (.cons (.bi .tuple false (.cons (.var 8) (.nil))) (.nil))))) (.var 11)) (.cons (.ret (.cst (.bl false))) (.nil)) (.nil)) (.cons (.ifs (.cmp .NotEq (.call 12 (.cons (.var 4) (.cons (.bin .Add false (.var 5) (.var 5)) (.cons (.var 8) (.nil))))) (.bin .Mult false (.cst (.int 2)) (.var 11))) (.cons (.ret (.cst (.bl false))) (.nil)) (.nil)) (.nil)))))))) (.cons (.ret (.cmp .Eq (.bi .repr false (.cons (.var 5) (.nil))) (.var 6))) (.nil))))))
abbrev fn_19 : Fn := ⟨1, 14, bd_19, .tree⟩
abbrev nm_19 : List Str := ["_law_script", "_law_pot_here", "_law_places", "_law_ties", "_law_web", "_law_tour_here", "_law_shown", "_law_turn", "_law_walk_here", "_law_begin", "_law_many", "_law_due", "_law_by", "_law_at"]
abbrev ps_19 : List Str := ["_law_script"]
def pg : Pg where
  fns := fun i => match i with
    | 0 => some fn_0
    | 1 => some fn_1
    | 2 => some fn_2
    | 3 => some fn_3
    | 4 => some fn_4
    | 5 => some fn_5
    | 6 => some fn_6
    | 7 => some fn_7
    | 8 => some fn_8
    | 9 => some fn_9
    | 10 => some fn_10
    | 11 => some fn_11
    | 12 => some fn_12
    | 13 => some fn_13
    | 14 => some fn_14
    | 15 => some fn_15
    | 16 => some fn_16
    | 17 => some fn_17
    | 18 => some fn_18
    | 19 => some fn_19
    | _ => none
  init := fun j => match j with
    | 0 => some (4, true)
    | _ => none
  meth := fun _ _ => none
  fldk := fun j f => match j with
    | 0 => if f ∈ (["own_places", "own_ties", "own_from", "own_to"] : List Str) then .fld else .no
    | _ => .no
  subc := fun i j => i == j
structure Txt (K : PySem.W.Frag) (mg : Str → Option Value) (fa : Nat → Addr) (fd : Nat → FuncData) (c : Kc) : Prop where
  hK : K = c.K
  f_0 : Fun K "is_integer" "is_integer" s_0 (fa 0) (fd 0)
  b_0 : Binds K (fd 0) ps_0 []
  m_0 : mg "is_integer" = some (.ref (fa 0))
  f_1 : Fun K "is_count" "is_count" s_1 (fa 1) (fd 1)
  b_1 : Binds K (fd 1) ps_1 []
  m_1 : mg "is_count" = some (.ref (fa 1))
  f_2 : Fun K "is_list" "is_list" s_2 (fa 2) (fd 2)
  b_2 : Binds K (fd 2) ps_2 []
  m_2 : mg "is_list" = some (.ref (fa 2))
  f_3 : Fun K "is_tie_value" "is_tie_value" s_3 (fa 3) (fd 3)
  b_3 : Binds K (fd 3) ps_3 []
  m_3 : mg "is_tie_value" = some (.ref (fa 3))
  f_4 : Fun K "__init__" "Web.__init__" s_4 (fa 4) (fd 4)
  b_4 : Binds K (fd 4) ps_4 []
  f_5 : Fun K "want_web" "want_web" s_5 (fa 5) (fd 5)
  b_5 : Binds K (fd 5) ps_5 []
  m_5 : mg "want_web" = some (.ref (fa 5))
  f_6 : Fun K "are_joined_ties" "are_joined_ties" s_6 (fa 6) (fd 6)
  b_6 : Binds K (fd 6) ps_6 []
  m_6 : mg "are_joined_ties" = some (.ref (fa 6))
  f_7 : Fun K "is_walk_value" "is_walk_value" s_7 (fa 7) (fd 7)
  b_7 : Binds K (fd 7) ps_7 []
  m_7 : mg "is_walk_value" = some (.ref (fa 7))
  f_8 : Fun K "is_round_value" "is_round_value" s_8 (fa 8) (fd 8)
  b_8 : Binds K (fd 8) ps_8 []
  m_8 : mg "is_round_value" = some (.ref (fa 8))
  f_9 : Fun K "want_walk" "want_walk" s_9 (fa 9) (fd 9)
  b_9 : Binds K (fd 9) ps_9 []
  m_9 : mg "want_walk" = some (.ref (fa 9))
  f_10 : Fun K "want_round" "want_round" s_10 (fa 10) (fd 10)
  b_10 : Binds K (fd 10) ps_10 []
  m_10 : mg "want_round" = some (.ref (fa 10))
  f_11 : Fun K "times_by" "times_by" s_11 (fa 11) (fd 11)
  b_11 : Binds K (fd 11) ps_11 []
  m_11 : mg "times_by" = some (.ref (fa 11))
  f_12 : Fun K "times_in" "times_in" s_12 (fa 12) (fd 12)
  b_12 : Binds K (fd 12) ps_12 []
  m_12 : mg "times_in" = some (.ref (fa 12))
  f_13 : Fun K "_law_pot" "_law_pot" s_13 (fa 13) (fd 13)
  b_13 : Binds K (fd 13) ps_13 []
  m_13 : mg "_law_pot" = some (.ref (fa 13))
  f_14 : Fun K "_law_draw" "_law_draw" s_14 (fa 14) (fd 14)
  b_14 : Binds K (fd 14) ps_14 []
  m_14 : mg "_law_draw" = some (.ref (fa 14))
  f_15 : Fun K "_law_close" "_law_close" s_15 (fa 15) (fd 15)
  b_15 : Binds K (fd 15) ps_15 []
  m_15 : mg "_law_close" = some (.ref (fa 15))
  f_16 : Fun K "_law_walk" "_law_walk" s_16 (fa 16) (fd 16)
  b_16 : Binds K (fd 16) ps_16 []
  m_16 : mg "_law_walk" = some (.ref (fa 16))
  f_17 : Fun K "_law_times" "_law_times" s_17 (fa 17) (fd 17)
  b_17 : Binds K (fd 17) ps_17 []
  m_17 : mg "_law_times" = some (.ref (fa 17))
  f_18 : Fun K "_law_tour" "_law_tour" s_18 (fa 18) (fd 18)
  b_18 : Binds K (fd 18) ps_18 []
  m_18 : mg "_law_tour" = some (.ref (fa 18))
  f_19 : Fun K "law" "law" s_19 (fa 19) (fd 19)
  b_19 : Binds K (fd 19) ps_19 []
  m_19 : mg "law" = some (.ref (fa 19))
  kb_12_0_1_2 : KBP K (fd 12) ps_12 0 ["web", "tour", "walk"] [0, 1, 2]
  z_isinstance : mg "isinstance" = none
  z_int : mg "int" = none
  z_bool : mg "bool" = none
  z_list : mg "list" = none
  z_tuple : mg "tuple" = none
  z_max : mg "max" = none
  z_len : mg "len" = none
  z_all : mg "all" = none
  z_enumerate : mg "enumerate" = none
  z_range : mg "range" = none
  z_zip : mg "zip" = none
  z_abs : mg "abs" = none
  z_divmod : mg "divmod" = none
  z_min : mg "min" = none
  z_repr : mg "repr" = none
  k_MOST_TIES : ∃ t, mg "MOST_TIES" = some (.int 80 t)
  k_MOST_PLACES : ∃ t, mg "MOST_PLACES" = some (.int 60 t)
  k_MOST_WALK : ∃ t, mg "MOST_WALK" = some (.int 400 t)
  k_MOST_ROUND : ∃ t, mg "MOST_ROUND" = some (.int 200000 t)
  mg_Web : mg "Web" = some (.ref (c.cl 0))
  mk_Web : Mk K (c.cl 0) (fa 4)
  ins : ∀ {G : Ga}, G.init = pg.init → ∀ j, (G.init j).isSome = true → InsOk K (c.cl j)
  nf_own_from : ∀ d, FldOk (cf0 c (gOf pg d)) K "own_from"
  nf_own_places : ∀ d, FldOk (cf0 c (gOf pg d)) K "own_places"
  nf_own_ties : ∀ d, FldOk (cf0 c (gOf pg d)) K "own_ties"
  nf_own_to : ∀ d, FldOk (cf0 c (gOf pg d)) K "own_to"
  kd_int : ∀ d, KdOk (cf0 c (gOf pg d)) K (.ty .int) (.type "int")
  kd_bool : ∀ d, KdOk (cf0 c (gOf pg d)) K (.ty .bl) (.type "bool")
  kd_list : ∀ d, KdOk (cf0 c (gOf pg d)) K (.ty .lst) (.type "list")
  kd_tuple : ∀ d, KdOk (cf0 c (gOf pg d)) K (.ty .tup) (.type "tuple")
  kd_Web : ∀ d, KdOk (cf0 c (gOf pg d)) K (.own 0) (.ref (c.cl 0))
variable {P : Program} {w : World} {K : PySem.W.Frag} {mg : Str → Option Value} {base : Heap} {fa : Nat → Addr} {fd : Nat → FuncData} {c : Kc} {d : Nat}
def pss (i : Nat) : List Str := match i with
  | 0 => ps_0
  | 1 => ps_1
  | 2 => ps_2
  | 3 => ps_3
  | 4 => ps_4
  | 5 => ps_5
  | 6 => ps_6
  | 7 => ps_7
  | 8 => ps_8
  | 9 => ps_9
  | 10 => ps_10
  | 11 => ps_11
  | 12 => ps_12
  | 13 => ps_13
  | 14 => ps_14
  | 15 => ps_15
  | 16 => ps_16
  | 17 => ps_17
  | 18 => ps_18
  | 19 => ps_19
  | _ => []
abbrev FGt (P : Program) (w : World) (K : PySem.W.Frag) (mg : Str → Option Value) (base : Heap) (fa : Nat → Addr) (fd : Nat → FuncData) (c : Kc) (d : Nat) : Prop := ∀ i, FnG P w K mg base (2 * d) (fa i) (fd i) (pss i) (spC c fun n0 ts R => (gOf pg d).call n0 i ts R)
theorem nd_0 : nm_0.Nodup := by decide +kernel
theorem sc_0 : FnScope nm_0 ps_0 (defScope s_0) := ⟨rfl, rfl, rfl, nd_0, rfl, by decide +kernel, by decide +kernel⟩
theorem ok_0 (T : Txt K mg fa fd c) (FG : FGt P w K mg base fa fd c d) : FnG P w K mg base (2 * d + 2) (fa 0) (fd 0) ps_0 (spC c fun n0 ts R => runFn (gOf pg d) fn_0 n0 ts R) := by
  refine fnG_fun (N := nm_0) T.f_0 sc_0 T.hK rfl rfl fun cdv f A outer s H E B hp => ?_
  exact (q_sscons B.fl
    (q_ret (q_and B.xo (q_isa1 B.xo (B.ins (T.ins rfl)) (B.kd (T.kd_int d)) (pe_bltn rfl T.z_int bo_int (v := .ty "int") rfl) (.ty _) (q_var (pv 0)) rfl T.z_isinstance bo_isinstance (by decide) (by decide) rfl rfl rfl) (q_one (q_not B.xo (q_isa1 B.xo (B.ins (T.ins rfl)) (B.kd (T.kd_bool d)) (pe_bltn rfl T.z_bool bo_bool (v := .ty "bool") rfl) (.ty _) (q_var (pv 0)) rfl T.z_isinstance bo_isinstance (by decide) (by decide) rfl rfl rfl)))))
    q_ssnil)
theorem nd_1 : nm_1.Nodup := by decide +kernel
theorem sc_1 : FnScope nm_1 ps_1 (defScope s_1) := ⟨rfl, rfl, rfl, nd_1, rfl, by decide +kernel, by decide +kernel⟩
theorem ok_1 (T : Txt K mg fa fd c) (FG : FGt P w K mg base fa fd c d) : FnG P w K mg base (2 * d + 2) (fa 1) (fd 1) ps_1 (spC c fun n0 ts R => runFn (gOf pg d) fn_1 n0 ts R) := by
  refine fnG_fun (N := nm_1) T.f_1 sc_1 T.hK rfl rfl fun cdv f A outer s H E B hp => ?_
  exact (q_sscons B.fl
    (q_ret (q_and B.xo (q_call (B.fn (FG 0)) B.r0 B.gd B.tk rfl T.m_0 T.f_0.kp T.b_0 (q_cons (q_var (pv 0)) q_nil rfl) (by decide) rfl rfl) (q_one (q_cmp B.xo (q_var (pv 0)) (q_cst pe_int fun _ _ _ _ => .int _) (nomark _)))))
    q_ssnil)
theorem nd_2 : nm_2.Nodup := by decide +kernel
theorem sc_2 : FnScope nm_2 ps_2 (defScope s_2) := ⟨rfl, rfl, rfl, nd_2, rfl, by decide +kernel, by decide +kernel⟩
theorem ok_2 (T : Txt K mg fa fd c) (FG : FGt P w K mg base fa fd c d) : FnG P w K mg base (2 * d + 2) (fa 2) (fd 2) ps_2 (spC c fun n0 ts R => runFn (gOf pg d) fn_2 n0 ts R) := by
  refine fnG_fun (N := nm_2) T.f_2 sc_2 T.hK rfl rfl fun cdv f A outer s H E B hp => ?_
  exact (q_sscons B.fl
    (q_ret (q_isa2 B.xo (B.ins (T.ins rfl)) (B.kd (T.kd_list d)) (B.kd (T.kd_tuple d)) (pe_bltn rfl T.z_list bo_list (v := .ty "list") rfl) (pe_bltn rfl T.z_tuple bo_tuple (v := .ty "tuple") rfl) (.ty _) (.ty _) (q_var (pv 0)) rfl T.z_isinstance bo_isinstance (by decide) (by decide) rfl rfl rfl rfl rfl))
    q_ssnil)
theorem nd_3 : nm_3.Nodup := by decide +kernel
theorem sc_3 : FnScope nm_3 ps_3 (defScope s_3) := ⟨rfl, rfl, rfl, nd_3, rfl, by decide +kernel, by decide +kernel⟩
theorem ok_3 (T : Txt K mg fa fd c) (FG : FGt P w K mg base fa fd c d) : FnG P w K mg base (2 * d + 2) (fa 3) (fd 3) ps_3 (spC c fun n0 ts R => runFn (gOf pg d) fn_3 n0 ts R) := by
  refine fnG_fun (N := nm_3) T.f_3 sc_3 T.hK rfl rfl fun cdv f A outer s H E B hp => ?_
  exact (q_sscons B.fl
    (q_if B.fl (PW.pt (q_orW (q_notT (q_truth B.xo (q_isa1 B.xo (B.ins (T.ins rfl)) (B.kd (T.kd_tuple d)) (pe_bltn rfl T.z_tuple bo_tuple (v := .ty "tuple") rfl) (.ty _) (q_var (pv 1)) rfl T.z_isinstance bo_isinstance (by decide) (by decide) rfl rfl rfl) fun _ => rfl)) (q_orW (q_cmpT B.xo (q_bi B.xo false fun _ h => pe_callB h rfl T.z_len bo_len (q_cons (q_var (pv 1)) q_nil rfl)) (q_cst pe_int fun _ _ _ _ => .int _) (nomark _)) (q_one1 (q_notT (q_truth B.xo (q_bi B.xo false fun _ h => pe_callB h rfl T.z_all bo_all (q_cons (q_comp (own := [("one", 2)]) false B.xo.calm nd_3 (by decide) (q_ival B.xo (q_var (pv 1))) (blkOk_by rfl) (fun s1 H1 _ _ fp1 => (q_gname (pg_name nd_3 rfl (Or.inl rfl)))) (fun s1 H1 _ _ fp1 => q_ptsnil) (fun s1 H1 _ _ fp1 => (q_call ((Bod.blk B s1 H1 _ _ fp1).fn (FG 1)) (Bod.blk B s1 H1 _ _ fp1).r0 (Bod.blk B s1 H1 _ _ fp1).gd (Bod.blk B s1 H1 _ _ fp1).tk rfl T.m_1 T.f_1.kp T.b_1 (q_cons (q_var (pv 2)) q_nil rfl) (by decide) rfl rfl)) fun _ => rfl) q_nil rfl)) fun _ => rfl)))))) (q_sscons B.fl
    (q_ret (q_cst pe_bl fun _ _ _ _ => .bl _))
    q_ssnil) q_ssnil)
    (q_sscons B.fl
    (q_ret (q_cmp B.xo (q_bi B.xo false fun _ h => pe_callB h rfl T.z_max bo_max (q_cons (q_var (pv 1)) q_nil rfl)) (q_var (pv 0)) (nomark _)))
    q_ssnil))
theorem nd_4 : nm_4.Nodup := by decide +kernel
theorem sc_4 : FnScope nm_4 ps_4 (defScope s_4) := ⟨rfl, rfl, rfl, nd_4, rfl, by decide +kernel, by decide +kernel⟩
theorem ok_4 (T : Txt K mg fa fd c) (FG : FGt P w K mg base fa fd c d) : FnG P w K mg base (2 * d + 2) (fa 4) (fd 4) ps_4 (spC c fun n0 ts R => runFn (gOf pg d) fn_4 n0 ts R) := by
  refine fnG_fun (N := nm_4) T.f_4 sc_4 T.hK rfl rfl fun cdv f A outer s H E B hp => ?_
  exact (q_sscons B.fl
    (q_if B.fl (PW.pt (q_orW (q_notT (q_truth B.xo (q_call (B.fn (FG 1)) B.r0 B.gd B.tk rfl T.m_1 T.f_1.kp T.b_1 (q_cons (q_var (pv 1)) q_nil rfl) (by decide) rfl rfl) fun _ => rfl)) (q_one1 (q_notT (q_chnT B.xo (q_cst pe_int fun _ _ _ _ => .int _) (q_var (pv 1)) (q_cst (pe_glob (v := .int 60) rfl T.k_MOST_PLACES.choose_spec ⟨_, rfl⟩) fun _ _ _ _ => .int _) rfl))))) (q_sscons B.fl
    q_never
    q_ssnil) q_ssnil)
    (q_sscons B.fl
    (q_if B.fl (PW.pt (q_orW (q_notT (q_truth B.xo (q_call (B.fn (FG 2)) B.r0 B.gd B.tk rfl T.m_2 T.f_2.kp T.b_2 (q_cons (q_var (pv 2)) q_nil rfl) (by decide) rfl rfl) fun _ => rfl)) (q_orW (q_cmpT B.xo (q_bi B.xo false fun _ h => pe_callB h rfl T.z_len bo_len (q_cons (q_var (pv 2)) q_nil rfl)) (q_cst (pe_glob (v := .int 80) rfl T.k_MOST_TIES.choose_spec ⟨_, rfl⟩) fun _ _ _ _ => .int _) (nomark _)) (q_one1 (q_notT (q_truth B.xo (q_bi B.xo false fun _ h => pe_callB h rfl T.z_all bo_all (q_cons (q_comp (own := [("tie", 6)]) false B.xo.calm nd_4 (by decide) (q_ival B.xo (q_var (pv 2))) (blkOk_by rfl) (fun s1 H1 _ _ fp1 => (q_gname (pg_name nd_4 rfl (Or.inl rfl)))) (fun s1 H1 _ _ fp1 => q_ptsnil) (fun s1 H1 _ _ fp1 => (q_call ((Bod.blk B s1 H1 _ _ fp1).fn (FG 3)) (Bod.blk B s1 H1 _ _ fp1).r0 (Bod.blk B s1 H1 _ _ fp1).gd (Bod.blk B s1 H1 _ _ fp1).tk rfl T.m_3 T.f_3.kp T.b_3 (q_cons (q_var (pv 1)) (q_cons (q_var (pv 6)) q_nil rfl) rfl) (by decide) rfl rfl)) fun _ => rfl) q_nil rfl)) fun _ => rfl)))))) (q_sscons B.fl
    q_never
    q_ssnil) q_ssnil)
    (q_sscons B.fl
    (q_fldset (q_var (pv 0)) (q_var (pv 1)) (B.fld (T.nf_own_places d)) rfl)
    (q_sscons B.fl
    (q_fldset (q_var (pv 0)) (q_bi B.xo false fun _ h => pe_callTy h rfl T.z_tuple bo_tuple (q_cons (q_var (pv 2)) q_nil rfl)) (B.fld (T.nf_own_ties d)) rfl)
    (q_sscons B.fl
    (q_fldset (q_var (pv 0)) (q_comp (own := [("place", 7)]) true B.xo.calm nd_4 (by decide) (q_irng1 rfl T.z_range (q_cons (q_var (pv 1)) q_nil rfl) rfl) (blkOk_by rfl) (fun s1 H1 _ _ fp1 => (q_gname (pg_name nd_4 rfl (Or.inl rfl)))) (fun s1 H1 _ _ fp1 => q_ptsnil) (fun s1 H1 _ _ fp1 => (q_lst true q_nil)) fun _ => rfl) (B.fld (T.nf_own_from d)) rfl)
    (q_sscons B.fl
    (q_fldset (q_var (pv 0)) (q_comp (own := [("place", 7)]) true B.xo.calm nd_4 (by decide) (q_irng1 rfl T.z_range (q_cons (q_var (pv 1)) q_nil rfl) rfl) (blkOk_by rfl) (fun s1 H1 _ _ fp1 => (q_gname (pg_name nd_4 rfl (Or.inl rfl)))) (fun s1 H1 _ _ fp1 => q_ptsnil) (fun s1 H1 _ _ fp1 => (q_lst true q_nil)) fun _ => rfl) (B.fld (T.nf_own_to d)) rfl)
    (q_sscons B.fl
    (q_for B.fl hp B.xo.calm (q_ienum B.xo rfl T.z_enumerate (q_cons (q_fld (q_var (pv 0)) (B.fld (T.nf_own_ties d)) rfl) q_nil rfl) rfl) (q_gtup B.xo B.xo.calm (q_gcons B.fl (q_gname (pg_name nd_4 rfl (Or.inl rfl))) (q_gcons B.fl (q_gtup B.xo B.xo.calm (q_gcons B.fl (q_gname (pg_name nd_4 rfl (Or.inl rfl))) (q_gcons B.fl (q_gname (pg_name nd_4 rfl (Or.inl rfl))) q_gnil rfl) rfl) rfl rfl) q_gnil rfl) rfl) rfl rfl) (q_sscons B.fl
    (q_expr (q_mth B.xo .append false rfl (q_sub B.xo (q_fld (q_var (pv 0)) (B.fld (T.nf_own_from d)) rfl) (q_var (pv 4)) fun _ _ => rfl) (q_cons (q_var (pv 3)) q_nil rfl) rfl rfl rfl rfl rfl) rfl)
    (q_sscons B.fl
    (q_expr (q_mth B.xo .append false rfl (q_sub B.xo (q_fld (q_var (pv 0)) (B.fld (T.nf_own_to d)) rfl) (q_var (pv 5)) fun _ _ => rfl) (q_cons (q_var (pv 3)) q_nil rfl) rfl rfl rfl rfl rfl) rfl)
    q_ssnil)) fun _ => rfl)
    q_ssnil)))))))
theorem nd_5 : nm_5.Nodup := by decide +kernel
theorem sc_5 : FnScope nm_5 ps_5 (defScope s_5) := ⟨rfl, rfl, rfl, nd_5, rfl, by decide +kernel, by decide +kernel⟩
theorem ok_5 (T : Txt K mg fa fd c) (FG : FGt P w K mg base fa fd c d) : FnG P w K mg base (2 * d + 2) (fa 5) (fd 5) ps_5 (spC c fun n0 ts R => runFn (gOf pg d) fn_5 n0 ts R) := by
  refine fnG_fun (N := nm_5) T.f_5 sc_5 T.hK rfl rfl fun cdv f A outer s H E B hp => ?_
  exact (q_sscons B.fl
    (q_if B.fl (q_notT (q_truth B.xo (q_isa1 B.xo (B.ins (T.ins rfl)) (B.kd (T.kd_Web d)) (pe_glob rfl T.mg_Web (v := .ref _) rfl) (.own _) (q_var (pv 0)) rfl T.z_isinstance bo_isinstance (by decide) (by decide) rfl rfl rfl) fun _ => rfl)) (q_sscons B.fl
    q_never
    q_ssnil) q_ssnil)
    (q_sscons B.fl
    (q_ret (q_var (pv 0)))
    q_ssnil))
theorem nd_6 : nm_6.Nodup := by decide +kernel
theorem sc_6 : FnScope nm_6 ps_6 (defScope s_6) := ⟨rfl, rfl, rfl, nd_6, rfl, by decide +kernel, by decide +kernel⟩
theorem ok_6 (T : Txt K mg fa fd c) (FG : FGt P w K mg base fa fd c d) : FnG P w K mg base (2 * d + 2) (fa 6) (fd 6) ps_6 (spC c fun n0 ts R => runFn (gOf pg d) fn_6 n0 ts R) := by
  refine fnG_fun (N := nm_6) T.f_6 sc_6 T.hK rfl rfl fun cdv f A outer s H E B hp => ?_
  exact (q_sscons B.fl
    (q_if B.fl (PW.pt (q_orW (q_notT (q_truth B.xo (q_call (B.fn (FG 2)) B.r0 B.gd B.tk rfl T.m_2 T.f_2.kp T.b_2 (q_cons (q_var (pv 1)) q_nil rfl) (by decide) rfl rfl) fun _ => rfl)) (q_orW (q_notT (q_chnT B.xo (q_cst pe_int fun _ _ _ _ => .int _) (q_bi B.xo false fun _ h => pe_callB h rfl T.z_len bo_len (q_cons (q_var (pv 1)) q_nil rfl)) (q_var (pv 2)) rfl)) (q_one1 (q_notT (q_truth B.xo (q_bi B.xo false fun _ h => pe_callB h rfl T.z_all bo_all (q_cons (q_comp (own := [("one", 3)]) false B.xo.calm nd_6 (by decide) (q_ival B.xo (q_var (pv 1))) (blkOk_by rfl) (fun s1 H1 _ _ fp1 => (q_gname (pg_name nd_6 rfl (Or.inl rfl)))) (fun s1 H1 _ _ fp1 => q_ptsnil) (fun s1 H1 _ _ fp1 => (q_call ((Bod.blk B s1 H1 _ _ fp1).fn (FG 1)) (Bod.blk B s1 H1 _ _ fp1).r0 (Bod.blk B s1 H1 _ _ fp1).gd (Bod.blk B s1 H1 _ _ fp1).tk rfl T.m_1 T.f_1.kp T.b_1 (q_cons (q_var (pv 3)) q_nil rfl) (by decide) rfl rfl)) fun _ => rfl) q_nil rfl)) fun _ => rfl)))))) (q_sscons B.fl
    (q_ret (q_cst pe_bl fun _ _ _ _ => .bl _))
    q_ssnil) q_ssnil)
    (q_sscons B.fl
    (q_if B.fl (q_cmpT B.xo (q_bi B.xo false fun _ h => pe_callB h rfl T.z_max bo_max (q_cons (q_var (pv 1)) q_nil rfl)) (q_bi B.xo false fun _ h => pe_callB h rfl T.z_len bo_len (q_cons (q_fld (q_var (pv 0)) (B.fld (T.nf_own_ties d)) rfl) q_nil rfl)) (nomark _)) (q_sscons B.fl
    (q_ret (q_cst pe_bl fun _ _ _ _ => .bl _))
    q_ssnil) q_ssnil)
    (q_sscons B.fl
    (q_ret (q_bi B.xo false fun _ h => pe_callB h rfl T.z_all bo_all (q_cons (q_comp (own := [("near", 4), ("far", 5)]) false B.xo.calm nd_6 (by decide) (q_izip B.xo rfl T.z_zip (q_cons (q_var (pv 1)) (q_cons (q_slc B.xo false (q_var (pv 1)) (po_som (q_cst pe_int fun _ _ _ _ => .int _)) po_non) q_nil rfl) rfl) rfl rfl) (blkOk_by rfl) (fun s1 H1 _ _ fp1 => (q_gtup (Bod.blk B s1 H1 _ _ fp1).xo (Bod.blk B s1 H1 _ _ fp1).xo.calm (q_gcons flx (q_gname (pg_name nd_6 rfl (Or.inl rfl))) (q_gcons flx (q_gname (pg_name nd_6 rfl (Or.inl rfl))) q_gnil rfl) rfl) rfl rfl)) (fun s1 H1 _ _ fp1 => q_ptsnil) (fun s1 H1 _ _ fp1 => (q_cmp (Bod.blk B s1 H1 _ _ fp1).xo (q_sub (Bod.blk B s1 H1 _ _ fp1).xo (q_sub (Bod.blk B s1 H1 _ _ fp1).xo (q_fld (q_var (pv 0)) ((Bod.blk B s1 H1 _ _ fp1).fld (T.nf_own_ties d)) rfl) (q_var (pv 4)) fun _ _ => rfl) (q_cst pe_int fun _ _ _ _ => .int _) fun _ _ => rfl) (q_sub (Bod.blk B s1 H1 _ _ fp1).xo (q_sub (Bod.blk B s1 H1 _ _ fp1).xo (q_fld (q_var (pv 0)) ((Bod.blk B s1 H1 _ _ fp1).fld (T.nf_own_ties d)) rfl) (q_var (pv 5)) fun _ _ => rfl) (q_cst pe_int fun _ _ _ _ => .int _) fun _ _ => rfl) (nomark _))) fun _ => rfl) q_nil rfl)))
    q_ssnil)))
theorem nd_7 : nm_7.Nodup := by decide +kernel
theorem sc_7 : FnScope nm_7 ps_7 (defScope s_7) := ⟨rfl, rfl, rfl, nd_7, rfl, by decide +kernel, by decide +kernel⟩
theorem ok_7 (T : Txt K mg fa fd c) (FG : FGt P w K mg base fa fd c d) : FnG P w K mg base (2 * d + 2) (fa 7) (fd 7) ps_7 (spC c fun n0 ts R => runFn (gOf pg d) fn_7 n0 ts R) := by
  refine fnG_fun (N := nm_7) T.f_7 sc_7 T.hK rfl rfl fun cdv f A outer s H E B hp => ?_
  exact (q_sscons B.fl
    (q_ret (q_call (B.fn (FG 6)) B.r0 B.gd B.tk rfl T.m_6 T.f_6.kp T.b_6 (q_cons (q_var (pv 0)) (q_cons (q_var (pv 1)) (q_cons (q_cst (pe_glob (v := .int 400) rfl T.k_MOST_WALK.choose_spec ⟨_, rfl⟩) fun _ _ _ _ => .int _) q_nil rfl) rfl) rfl) (by decide) rfl rfl))
    q_ssnil)
theorem nd_8 : nm_8.Nodup := by decide +kernel
theorem sc_8 : FnScope nm_8 ps_8 (defScope s_8) := ⟨rfl, rfl, rfl, nd_8, rfl, by decide +kernel, by decide +kernel⟩
theorem ok_8 (T : Txt K mg fa fd c) (FG : FGt P w K mg base fa fd c d) : FnG P w K mg base (2 * d + 2) (fa 8) (fd 8) ps_8 (spC c fun n0 ts R => runFn (gOf pg d) fn_8 n0 ts R) := by
  refine fnG_fun (N := nm_8) T.f_8 sc_8 T.hK rfl rfl fun cdv f A outer s H E B hp => ?_
  exact (q_sscons B.fl
    (q_if B.fl (q_notT (q_truth B.xo (q_call (B.fn (FG 6)) B.r0 B.gd B.tk rfl T.m_6 T.f_6.kp T.b_6 (q_cons (q_var (pv 0)) (q_cons (q_var (pv 1)) (q_cons (q_cst (pe_glob (v := .int 200000) rfl T.k_MOST_ROUND.choose_spec ⟨_, rfl⟩) fun _ _ _ _ => .int _) q_nil rfl) rfl) rfl) (by decide) rfl rfl) fun _ => rfl)) (q_sscons B.fl
    (q_ret (q_cst pe_bl fun _ _ _ _ => .bl _))
    q_ssnil) q_ssnil)
    (q_sscons B.fl
    (q_ret (q_cmp B.xo (q_sub B.xo (q_sub B.xo (q_fld (q_var (pv 0)) (B.fld (T.nf_own_ties d)) rfl) (q_sub B.xo (q_var (pv 1)) (q_cst pe_int fun _ _ _ _ => .int _) fun _ _ => rfl) fun _ _ => rfl) (q_cst pe_int fun _ _ _ _ => .int _) fun _ _ => rfl) (q_sub B.xo (q_sub B.xo (q_fld (q_var (pv 0)) (B.fld (T.nf_own_ties d)) rfl) (q_sub B.xo (q_var (pv 1)) (q_neg (q_cst pe_int fun _ _ _ _ => .int _)) fun _ _ => rfl) fun _ _ => rfl) (q_cst pe_int fun _ _ _ _ => .int _) fun _ _ => rfl) (nomark _)))
    q_ssnil))
theorem nd_9 : nm_9.Nodup := by decide +kernel
theorem sc_9 : FnScope nm_9 ps_9 (defScope s_9) := ⟨rfl, rfl, rfl, nd_9, rfl, by decide +kernel, by decide +kernel⟩
theorem ok_9 (T : Txt K mg fa fd c) (FG : FGt P w K mg base fa fd c d) : FnG P w K mg base (2 * d + 2) (fa 9) (fd 9) ps_9 (spC c fun n0 ts R => runFn (gOf pg d) fn_9 n0 ts R) := by
  refine fnG_fun (N := nm_9) T.f_9 sc_9 T.hK rfl rfl fun cdv f A outer s H E B hp => ?_
  exact (q_sscons B.fl
    (q_if B.fl (q_notT (q_truth B.xo (q_call (B.fn (FG 7)) B.r0 B.gd B.tk rfl T.m_7 T.f_7.kp T.b_7 (q_cons (q_var (pv 0)) (q_cons (q_var (pv 1)) q_nil rfl) rfl) (by decide) rfl rfl) fun _ => rfl)) (q_sscons B.fl
    q_never
    q_ssnil) q_ssnil)
    (q_sscons B.fl
    (q_ret (q_bi B.xo false fun _ h => pe_callTy h rfl T.z_list bo_list (q_cons (q_var (pv 1)) q_nil rfl)))
    q_ssnil))
theorem nd_10 : nm_10.Nodup := by decide +kernel
theorem sc_10 : FnScope nm_10 ps_10 (defScope s_10) := ⟨rfl, rfl, rfl, nd_10, rfl, by decide +kernel, by decide +kernel⟩
theorem ok_10 (T : Txt K mg fa fd c) (FG : FGt P w K mg base fa fd c d) : FnG P w K mg base (2 * d + 2) (fa 10) (fd 10) ps_10 (spC c fun n0 ts R => runFn (gOf pg d) fn_10 n0 ts R) := by
  refine fnG_fun (N := nm_10) T.f_10 sc_10 T.hK rfl rfl fun cdv f A outer s H E B hp => ?_
  exact (q_sscons B.fl
    (q_if B.fl (q_notT (q_truth B.xo (q_call (B.fn (FG 8)) B.r0 B.gd B.tk rfl T.m_8 T.f_8.kp T.b_8 (q_cons (q_var (pv 0)) (q_cons (q_var (pv 1)) q_nil rfl) rfl) (by decide) rfl rfl) fun _ => rfl)) (q_sscons B.fl
    q_never
    q_ssnil) q_ssnil)
    (q_sscons B.fl
    (q_ret (q_bi B.xo false fun _ h => pe_callTy h rfl T.z_list bo_list (q_cons (q_var (pv 1)) q_nil rfl)))
    q_ssnil))
theorem nd_11 : nm_11.Nodup := by decide +kernel
theorem sc_11 : FnScope nm_11 ps_11 (defScope s_11) := ⟨rfl, rfl, rfl, nd_11, rfl, by decide +kernel, by decide +kernel⟩
theorem ok_11 (T : Txt K mg fa fd c) (FG : FGt P w K mg base fa fd c d) : FnG P w K mg base (2 * d + 2) (fa 11) (fd 11) ps_11 (spC c fun n0 ts R => runFn (gOf pg d) fn_11 n0 ts R) := by
  refine fnG_fun (N := nm_11) T.f_11 sc_11 T.hK rfl rfl fun cdv f A outer s H E B hp => ?_
  exact (q_sscons B.fl
    (q_asg (q_tup (q_cons (q_cst pe_int fun _ _ _ _ => .int _) (q_cons (q_bi B.xo false fun _ h => pe_callB h rfl T.z_len bo_len (q_cons (q_var (pv 0)) q_nil rfl)) q_nil rfl) rfl)) (q_gtup B.xo B.xo.calm (q_gcons B.fl (q_gname (pg_name nd_11 rfl (Or.inl rfl))) (q_gcons B.fl (q_gname (pg_name nd_11 rfl (Or.inr rfl))) q_gnil rfl) rfl) rfl rfl) rfl rfl rfl)
    (q_sscons B.fl
    (q_for B.fl hp B.xo.calm (q_irng1 rfl T.z_range (q_cons (q_var (pv 3)) q_nil rfl) rfl) (q_gname (pg_name nd_11 rfl (Or.inr rfl))) (q_sscons B.fl
    (q_if B.fl (q_truth B.xo (q_bi B.xo false fun _ h => pe_callB h rfl T.z_all bo_all (q_cons (q_comp (own := [("step", 5), ("tie", 6)]) false B.xo.calm nd_11 (by decide) (q_ienum B.xo rfl T.z_enumerate (q_cons (q_var (pv 1)) q_nil rfl) rfl) (blkOk_by rfl) (fun s1 H1 _ _ fp1 => (q_gtup (Bod.blk B s1 H1 _ _ fp1).xo (Bod.blk B s1 H1 _ _ fp1).xo.calm (q_gcons flx (q_gname (pg_name nd_11 rfl (Or.inl rfl))) (q_gcons flx (q_gname (pg_name nd_11 rfl (Or.inl rfl))) q_gnil rfl) rfl) rfl rfl)) (fun s1 H1 _ _ fp1 => q_ptsnil) (fun s1 H1 _ _ fp1 => (q_cmp (Bod.blk B s1 H1 _ _ fp1).xo (q_sub (Bod.blk B s1 H1 _ _ fp1).xo (q_var (pv 0)) (q_bin (Bod.blk B s1 H1 _ _ fp1).xo false (q_bin (Bod.blk B s1 H1 _ _ fp1).xo false (q_var (pv 4)) (q_var (pv 5))) (q_var (pv 3))) fun _ _ => rfl) (q_var (pv 6)) (nomark _))) fun _ => rfl) q_nil rfl)) fun _ => rfl) (q_sscons B.fl
    (q_asg (q_bin B.xo false (q_var (pv 2)) (q_cst pe_int fun _ _ _ _ => .int _)) (q_gname (pg_name nd_11 rfl (Or.inl rfl))) rfl rfl rfl)
    q_ssnil) q_ssnil)
    q_ssnil) fun _ => rfl)
    (q_sscons B.fl
    (q_ret (q_var (pv 2)))
    q_ssnil)))
theorem nd_12 : nm_12.Nodup := by decide +kernel
theorem sc_12 : FnScope nm_12 ps_12 (defScope s_12) := ⟨rfl, rfl, rfl, nd_12, rfl, by decide +kernel, by decide +kernel⟩
theorem ok_12 (T : Txt K mg fa fd c) (FG : FGt P w K mg base fa fd c d) : FnG P w K mg base (2 * d + 2) (fa 12) (fd 12) ps_12 (spC c fun n0 ts R => runFn (gOf pg d) fn_12 n0 ts R) := by
  refine fnG_fun (N := nm_12) T.f_12 sc_12 T.hK rfl rfl fun cdv f A outer s H E B hp => ?_
  exact (q_sscons B.fl
    (q_asg (q_call (B.fn (FG 5)) B.r0 B.gd B.tk rfl T.m_5 T.f_5.kp T.b_5 (q_cons (q_var (pv 0)) q_nil rfl) (by decide) rfl rfl) (q_gname (pg_name nd_12 rfl (Or.inl rfl))) rfl rfl rfl)
    (q_sscons B.fl
    (q_asg (q_call (B.fn (FG 10)) B.r0 B.gd B.tk rfl T.m_10 T.f_10.kp T.b_10 (q_cons (q_var (pv 3)) (q_cons (q_var (pv 1)) q_nil rfl) rfl) (by decide) rfl rfl) (q_gname (pg_name nd_12 rfl (Or.inl rfl))) rfl rfl rfl)
    (q_sscons B.fl
    (q_ret (q_call (B.fn (FG 11)) B.r0 B.gd B.tk rfl T.m_11 T.f_11.kp T.b_11 (q_cons (q_var (pv 4)) (q_cons (q_call (B.fn (FG 9)) B.r0 B.gd B.tk rfl T.m_9 T.f_9.kp T.b_9 (q_cons (q_var (pv 3)) (q_cons (q_var (pv 2)) q_nil rfl) rfl) (by decide) rfl rfl) q_nil rfl) rfl) (by decide) rfl rfl))
    q_ssnil)))
theorem nd_13 : nm_13.Nodup := by decide +kernel
theorem sc_13 : FnScope nm_13 ps_13 (defScope s_13) := ⟨rfl, rfl, rfl, nd_13, rfl, by decide +kernel, by decide +kernel⟩
theorem ok_13 (T : Txt K mg fa fd c) (FG : FGt P w K mg base fa fd c d) : FnG P w K mg base (2 * d + 2) (fa 13) (fd 13) ps_13 (spC c fun n0 ts R => runFn (gOf pg d) fn_13 n0 ts R) := by
  refine fnG_fun (N := nm_13) T.f_13 sc_13 T.hK rfl rfl fun cdv f A outer s H E B hp => ?_
  exact (q_sscons B.fl
    (q_asg (q_ifx (q_cmpT B.xo (q_var (pv 1)) (q_bi B.xo false fun _ h => pe_callB h rfl T.z_len bo_len (q_cons (q_var (pv 0)) q_nil rfl)) (nomark _)) (q_bi B.xo false fun _ h => pe_callB h rfl T.z_abs bo_abs (q_cons (q_sub B.xo (q_var (pv 0)) (q_var (pv 1)) fun _ _ => rfl) q_nil rfl)) (q_bin B.xo false (q_bin B.xo false (q_cst pe_int fun _ _ _ _ => .int _) (q_var (pv 1))) (q_cst pe_int fun _ _ _ _ => .int _))) (q_gname (pg_name nd_13 rfl (Or.inl rfl))) rfl rfl rfl)
    (q_sscons B.fl
    (q_ret (q_lst true (q_cons (q_bi B.xo true fun _ h => pe_callB h rfl T.z_max bo_max (q_cons (q_cst pe_int fun _ _ _ _ => .int _) (q_cons (q_bin B.xo false (q_var (pv 2)) (q_bin B.xo false (q_cst pe_int fun _ _ _ _ => .int _) (q_cst pe_int fun _ _ _ _ => .int _))) q_nil rfl) rfl)) (q_cons (q_bin B.xo true (q_bin B.xo false (q_bi B.xo false fun _ h => pe_callTy h rfl T.z_int bo_int (q_cons (q_bin B.xo false (q_bin B.xo false (q_bin B.xo false (q_bin B.xo false (q_bi B.xo false fun _ h => pe_callTy h rfl T.z_int bo_int (q_cons (q_var (pv 2)) q_nil rfl)) (q_cst pe_int fun _ _ _ _ => .int _)) (q_cst pe_int fun _ _ _ _ => .int _)) (q_bin B.xo false (q_cst pe_int fun _ _ _ _ => .int _) (q_var (pv 1)))) (q_cst pe_int fun _ _ _ _ => .int _)) q_nil rfl)) (q_cst pe_int fun _ _ _ _ => .int _)) (q_cst pe_int fun _ _ _ _ => .int _)) q_nil rfl) rfl)))
    q_ssnil))
theorem nd_14 : nm_14.Nodup := by decide +kernel
theorem sc_14 : FnScope nm_14 ps_14 (defScope s_14) := ⟨rfl, rfl, rfl, nd_14, rfl, by decide +kernel, by decide +kernel⟩
theorem ok_14 (T : Txt K mg fa fd c) (FG : FGt P w K mg base fa fd c d) : FnG P w K mg base (2 * d + 2) (fa 14) (fd 14) ps_14 (spC c fun n0 ts R => runFn (gOf pg d) fn_14 n0 ts R) := by
  refine fnG_fun (N := nm_14) T.f_14 sc_14 T.hK rfl rfl fun cdv f A outer s H E B hp => ?_
  exact (q_sscons B.fl
    (q_if B.fl (q_cmpT B.xo (q_sub B.xo (q_var (pv 0)) (q_cst pe_int fun _ _ _ _ => .int _) fun _ _ => rfl) (q_cst pe_int fun _ _ _ _ => .int _) (nomark _)) (q_sscons B.fl
    (q_asg (q_bi B.xo false fun _ h => pe_callB h rfl T.z_divmod bo_divmod (q_cons (q_sub B.xo (q_var (pv 0)) (q_cst pe_int fun _ _ _ _ => .int _) fun _ _ => rfl) (q_cons (q_var (pv 1)) q_nil rfl) rfl)) (q_gtup B.xo B.xo.calm (q_gcons B.fl (q_gsub B.xo (q_var (pv 0)) (q_cst pe_int fun _ _ _ _ => .int _) fun _ => rfl) (q_gcons B.fl (q_gname (pg_name nd_14 rfl (Or.inl rfl))) q_gnil rfl) rfl) rfl rfl) rfl rfl rfl)
    (q_sscons B.fl
    (q_ret (q_var (pv 2)))
    q_ssnil)) q_ssnil)
    (q_sscons B.fl
    (q_asg (q_bin B.xo false (q_bi B.xo false fun _ h => pe_callTy h rfl T.z_int bo_int (q_cons (q_bin B.xo false (q_bin B.xo false (q_sub B.xo (q_var (pv 0)) (q_cst pe_int fun _ _ _ _ => .int _) fun _ _ => rfl) (q_cst pe_int fun _ _ _ _ => .int _)) (q_cst pe_int fun _ _ _ _ => .int _)) q_nil rfl)) (q_cst pe_int fun _ _ _ _ => .int _)) (q_gsub B.xo (q_var (pv 0)) (q_cst pe_int fun _ _ _ _ => .int _) fun _ => rfl) rfl rfl rfl)
    (q_sscons B.fl
    (q_ret (q_bin B.xo false (q_bi B.xo false fun _ h => pe_callTy h rfl T.z_int bo_int (q_cons (q_bin B.xo false (q_bin B.xo false (q_bi B.xo false fun _ h => pe_callTy h rfl T.z_int bo_int (q_cons (q_bin B.xo false (q_sub B.xo (q_var (pv 0)) (q_cst pe_int fun _ _ _ _ => .int _) fun _ _ => rfl) (q_sub B.xo (q_var (pv 0)) (q_cst pe_int fun _ _ _ _ => .int _) fun _ _ => rfl)) q_nil rfl)) (q_cst pe_int fun _ _ _ _ => .int _)) (q_cst pe_int fun _ _ _ _ => .int _)) q_nil rfl)) (q_var (pv 1))))
    q_ssnil)))
theorem nd_15 : nm_15.Nodup := by decide +kernel
theorem sc_15 : FnScope nm_15 ps_15 (defScope s_15) := ⟨rfl, rfl, rfl, nd_15, rfl, by decide +kernel, by decide +kernel⟩
theorem ok_15 (T : Txt K mg fa fd c) (FG : FGt P w K mg base fa fd c d) : FnG P w K mg base (2 * d + 2) (fa 15) (fd 15) ps_15 (spC c fun n0 ts R => runFn (gOf pg d) fn_15 n0 ts R) := by
  refine fnG_fun (N := nm_15) T.f_15 sc_15 T.hK rfl rfl fun cdv f A outer s H E B hp => ?_
  exact (q_sscons B.fl
    (q_asg (q_bin B.xo false (q_cst pe_int fun _ _ _ _ => .int _) (q_call (B.fn (FG 14)) B.r0 B.gd B.tk rfl T.m_14 T.f_14.kp T.b_14 (q_cons (q_var (pv 0)) (q_cons (q_var (pv 1)) q_nil rfl) rfl) (by decide) rfl rfl)) (q_gname (pg_name nd_15 rfl (Or.inl rfl))) rfl rfl rfl)
    (q_sscons B.fl
    (q_par B.xo.calm nd_15 rfl rfl (by decide) rfl rfl (q_cons (q_lst true q_nil) (q_cons (q_lrng true B.xo.calm rfl T.z_list rfl T.z_range (q_var (pv 3)) rfl rfl) q_nil rfl) rfl) rfl rfl)
    (q_sscons B.fl
    (q_whl B.fl hp (q_cmpT B.xo (q_var (pv 5)) (q_lst false q_nil) (nomark _)) (q_sscons B.fl
    (q_expr (q_mth B.xo .append false rfl (q_var (pv 4)) (q_cons (q_mth B.xo .pop false rfl (q_var (pv 5)) (q_cons (q_call (B.fn (FG 14)) B.r0 B.gd B.tk rfl T.m_14 T.f_14.kp T.b_14 (q_cons (q_var (pv 0)) (q_cons (q_bi B.xo false fun _ h => pe_callB h rfl T.z_len bo_len (q_cons (q_var (pv 5)) q_nil rfl)) q_nil rfl) rfl) (by decide) rfl rfl) q_nil rfl) rfl rfl rfl rfl rfl) q_nil rfl) rfl rfl rfl rfl rfl) rfl)
    q_ssnil))
    (q_sscons B.fl
    (q_asg (q_lzip true B.xo rfl T.z_list rfl T.z_zip (q_cons (q_var (pv 4)) (q_cons (q_bin B.xo false (q_slc B.xo false (q_var (pv 4)) (po_som (q_cst pe_int fun _ _ _ _ => .int _)) po_non) (q_slc B.xo false (q_var (pv 4)) po_non (po_som (q_cst pe_int fun _ _ _ _ => .int _)))) q_nil rfl) rfl) rfl rfl rfl) (q_gname (pg_name nd_15 rfl (Or.inl rfl))) rfl rfl rfl)
    (q_sscons B.fl
    (q_for B.fl hp B.xo.calm (q_irng1 rfl T.z_range (q_cons (q_call (B.fn (FG 14)) B.r0 B.gd B.tk rfl T.m_14 T.f_14.kp T.b_14 (q_cons (q_var (pv 0)) (q_cons (q_bin B.xo false (q_var (pv 2)) (q_cst pe_int fun _ _ _ _ => .int _)) q_nil rfl) rfl) (by decide) rfl rfl) q_nil rfl) rfl) (q_gname (pg_name nd_15 rfl (Or.inl rfl))) (q_sscons B.fl
    (q_asg (q_call (B.fn (FG 14)) B.r0 B.gd B.tk rfl T.m_14 T.f_14.kp T.b_14 (q_cons (q_var (pv 0)) (q_cons (q_cst pe_int fun _ _ _ _ => .int _) q_nil rfl) rfl) (by decide) rfl rfl) (q_gname (pg_name nd_15 rfl (Or.inl rfl))) rfl rfl rfl)
    (q_sscons B.fl
    (q_par B.xo.calm nd_15 rfl rfl (by decide) rfl rfl (q_cons (q_call (B.fn (FG 14)) B.r0 B.gd B.tk rfl T.m_14 T.f_14.kp T.b_14 (q_cons (q_var (pv 0)) (q_cons (q_var (pv 3)) q_nil rfl) rfl) (by decide) rfl rfl) (q_cons (q_call (B.fn (FG 14)) B.r0 B.gd B.tk rfl T.m_14 T.f_14.kp T.b_14 (q_cons (q_var (pv 0)) (q_cons (q_var (pv 3)) q_nil rfl) rfl) (by decide) rfl rfl) q_nil rfl) rfl) rfl rfl)
    (q_sscons B.fl
    (q_asg (q_tup (q_cons (q_var (pv 9)) (q_cons (q_ifx (q_cmpT B.xo (q_var (pv 8)) (q_cst pe_int fun _ _ _ _ => .int _) (nomark _)) (q_var (pv 9)) (q_var (pv 10))) q_nil rfl) rfl)) (q_gname (pg_name nd_15 rfl (Or.inl rfl))) rfl rfl rfl)
    (q_sscons B.fl
    (q_if B.fl (q_cmpT B.xo (q_var (pv 8)) (q_cst pe_int fun _ _ _ _ => .int _) (nomark _)) (q_sscons B.fl
    (q_asg (q_sub B.xo (q_var (pv 6)) (q_call (B.fn (FG 14)) B.r0 B.gd B.tk rfl T.m_14 T.f_14.kp T.b_14 (q_cons (q_var (pv 0)) (q_cons (q_bi B.xo false fun _ h => pe_callB h rfl T.z_len bo_len (q_cons (q_var (pv 6)) q_nil rfl)) q_nil rfl) rfl) (by decide) rfl rfl) fun _ _ => rfl) (q_gname (pg_name nd_15 rfl (Or.inl rfl))) rfl rfl rfl)
    q_ssnil) q_ssnil)
    (q_sscons B.fl
    (q_expr (q_mth B.xo .insert false rfl (q_var (pv 6)) (q_cons (q_call (B.fn (FG 14)) B.r0 B.gd B.tk rfl T.m_14 T.f_14.kp T.b_14 (q_cons (q_var (pv 0)) (q_cons (q_bin B.xo false (q_bi B.xo false fun _ h => pe_callB h rfl T.z_len bo_len (q_cons (q_var (pv 6)) q_nil rfl)) (q_cst pe_int fun _ _ _ _ => .int _)) q_nil rfl) rfl) (by decide) rfl rfl) (q_cons (q_var (pv 11)) q_nil rfl) rfl) rfl rfl rfl rfl rfl) rfl)
    q_ssnil))))) fun _ => rfl)
    (q_sscons B.fl
    (q_ret (q_tup (q_cons (q_var (pv 3)) (q_cons (q_var (pv 6)) q_nil rfl) rfl)))
    q_ssnil))))))
theorem nd_16 : nm_16.Nodup := by decide +kernel
theorem sc_16 : FnScope nm_16 ps_16 (defScope s_16) := ⟨rfl, rfl, rfl, nd_16, rfl, by decide +kernel, by decide +kernel⟩
theorem ok_16 (T : Txt K mg fa fd c) (FG : FGt P w K mg base fa fd c d) : FnG P w K mg base (2 * d + 2) (fa 16) (fd 16) ps_16 (spC c fun n0 ts R => runFn (gOf pg d) fn_16 n0 ts R) := by
  refine fnG_fun (N := nm_16) T.f_16 sc_16 T.hK rfl rfl fun cdv f A outer s H E B hp => ?_
  exact (q_sscons B.fl
    (q_asg (q_lst true (q_cons (q_call (B.fn (FG 14)) B.r0 B.gd B.tk rfl T.m_14 T.f_14.kp T.b_14 (q_cons (q_var (pv 0)) (q_cons (q_bi B.xo false fun _ h => pe_callB h rfl T.z_len bo_len (q_cons (q_var (pv 1)) q_nil rfl)) q_nil rfl) rfl) (by decide) rfl rfl) q_nil rfl)) (q_gname (pg_name nd_16 rfl (Or.inr rfl))) rfl rfl rfl)
    (q_sscons B.fl
    (q_whl B.fl hp (q_cmpT B.xo (q_bi B.xo false fun _ h => pe_callB h rfl T.z_len bo_len (q_cons (q_var (pv 3)) q_nil rfl)) (q_var (pv 2)) (nomark _)) (q_sscons B.fl
    (q_setLc (own := [("_law_at", 5), ("_law_tie", 6)]) (i := 4) false B.xo.calm nd_16 rfl rfl rfl (by decide) (q_ienum B.xo rfl T.z_enumerate (q_cons (q_var (pv 1)) q_nil rfl) rfl) (blkOk_by rfl) (fun s1 H1 _ _ fp1 => (q_gtup (Bod.blk B s1 H1 _ _ fp1).xo (Bod.blk B s1 H1 _ _ fp1).xo.calm (q_gcons flx (q_gname (pg_name nd_16 rfl (Or.inl rfl))) (q_gcons flx (q_gname (pg_name nd_16 rfl (Or.inl rfl))) q_gnil rfl) rfl) rfl rfl)) (fun s1 H1 _ _ fp1 => (pts_one (q_cmpT (Bod.blk B s1 H1 _ _ fp1).xo (q_sub (Bod.blk B s1 H1 _ _ fp1).xo (q_var (pv 6)) (q_cst pe_int fun _ _ _ _ => .int _) fun _ _ => rfl) (q_sub (Bod.blk B s1 H1 _ _ fp1).xo (q_sub (Bod.blk B s1 H1 _ _ fp1).xo (q_var (pv 1)) (q_sub (Bod.blk B s1 H1 _ _ fp1).xo (q_var (pv 3)) (q_neg (q_cst pe_int fun _ _ _ _ => .int _)) fun _ _ => rfl) fun _ _ => rfl) (q_cst pe_int fun _ _ _ _ => .int _) fun _ _ => rfl) (nomark _)))) (fun s1 H1 _ _ fp1 => (q_var (pv 5))) fun _ => rfl)
    (q_sscons B.fl
    (q_expr (q_mth B.xo .append false rfl (q_var (pv 3)) (q_cons (q_sub B.xo (q_var (pv 4)) (q_call (B.fn (FG 14)) B.r0 B.gd B.tk rfl T.m_14 T.f_14.kp T.b_14 (q_cons (q_var (pv 0)) (q_cons (q_bi B.xo false fun _ h => pe_callB h rfl T.z_len bo_len (q_cons (q_var (pv 4)) q_nil rfl)) q_nil rfl) rfl) (by decide) rfl rfl) fun _ _ => rfl) q_nil rfl) rfl rfl rfl rfl rfl) rfl)
    q_ssnil)))
    (q_sscons B.fl
    (q_ret (q_var (pv 3)))
    q_ssnil)))
theorem nd_17 : nm_17.Nodup := by decide +kernel
theorem sc_17 : FnScope nm_17 ps_17 (defScope s_17) := ⟨rfl, rfl, rfl, nd_17, rfl, by decide +kernel, by decide +kernel⟩
theorem ok_17 (T : Txt K mg fa fd c) (FG : FGt P w K mg base fa fd c d) : FnG P w K mg base (2 * d + 2) (fa 17) (fd 17) ps_17 (spC c fun n0 ts R => runFn (gOf pg d) fn_17 n0 ts R) := by
  refine fnG_fun (N := nm_17) T.f_17 sc_17 T.hK rfl rfl fun cdv f A outer s H E B hp => ?_
  exact (q_sscons B.fl
    (q_asg (q_cst pe_int fun _ _ _ _ => .int _) (q_gname (pg_name nd_17 rfl (Or.inl rfl))) rfl rfl rfl)
    (q_sscons B.fl
    (q_for B.fl hp B.xo.calm (q_irng1 rfl T.z_range (q_cons (q_bi B.xo false fun _ h => pe_callB h rfl T.z_len bo_len (q_cons (q_var (pv 0)) q_nil rfl)) q_nil rfl) rfl) (q_gname (pg_name nd_17 rfl (Or.inr rfl))) (q_sscons B.fl
    (q_setLc (own := [("_law_at", 5), ("_law_tie", 6)]) (i := 4) false B.xo.calm nd_17 rfl rfl rfl (by decide) (q_ienum B.xo rfl T.z_enumerate (q_cons (q_var (pv 1)) q_nil rfl) rfl) (blkOk_by rfl) (fun s1 H1 _ _ fp1 => (q_gtup (Bod.blk B s1 H1 _ _ fp1).xo (Bod.blk B s1 H1 _ _ fp1).xo.calm (q_gcons flx (q_gname (pg_name nd_17 rfl (Or.inl rfl))) (q_gcons flx (q_gname (pg_name nd_17 rfl (Or.inl rfl))) q_gnil rfl) rfl) rfl rfl)) (fun s1 H1 _ _ fp1 => (pts_one (q_cmpT (Bod.blk B s1 H1 _ _ fp1).xo (q_sub (Bod.blk B s1 H1 _ _ fp1).xo (q_var (pv 0)) (q_bin (Bod.blk B s1 H1 _ _ fp1).xo false (q_bin (Bod.blk B s1 H1 _ _ fp1).xo false (q_var (pv 3)) (q_var (pv 5))) (q_bi (Bod.blk B s1 H1 _ _ fp1).xo false fun _ h => pe_callB h rfl T.z_len bo_len (q_cons (q_var (pv 0)) q_nil rfl))) fun _ _ => rfl) (q_var (pv 6)) (nomark _)))) (fun s1 H1 _ _ fp1 => (q_var (pv 5))) fun _ => rfl)
    (q_sscons B.fl
    (q_asg (q_bin B.xo false (q_var (pv 2)) (q_bi B.xo false fun _ h => pe_callTy h rfl T.z_int bo_int (q_cons (q_cmp B.xo (q_var (pv 4)) (q_lst false q_nil) (nomark _)) q_nil rfl))) (q_gname (pg_name nd_17 rfl (Or.inl rfl))) rfl rfl rfl)
    q_ssnil)) fun _ => rfl)
    (q_sscons B.fl
    (q_ret (q_var (pv 2)))
    q_ssnil)))
theorem nd_18 : nm_18.Nodup := by decide +kernel
theorem sc_18 : FnScope nm_18 ps_18 (defScope s_18) := ⟨rfl, rfl, rfl, nd_18, rfl, by decide +kernel, by decide +kernel⟩
theorem ok_18 (T : Txt K mg fa fd c) (FG : FGt P w K mg base fa fd c d) : FnG P w K mg base (2 * d + 2) (fa 18) (fd 18) ps_18 (spC c fun n0 ts R => runFn (gOf pg d) fn_18 n0 ts R) := by
  refine fnG_fun (N := nm_18) T.f_18 sc_18 T.hK rfl rfl fun cdv f A outer s H E B hp => ?_
  exact (q_sscons B.fl
    (q_asg (q_call (B.fn (FG 16)) B.r0 B.gd B.tk rfl T.m_16 T.f_16.kp T.b_16 (q_cons (q_var (pv 0)) (q_cons (q_var (pv 2)) (q_cons (q_bin B.xo false (q_cst pe_int fun _ _ _ _ => .int _) (q_call (B.fn (FG 14)) B.r0 B.gd B.tk rfl T.m_14 T.f_14.kp T.b_14 (q_cons (q_var (pv 0)) (q_cons (q_cst pe_int fun _ _ _ _ => .int _) q_nil rfl) rfl) (by decide) rfl rfl)) q_nil rfl) rfl) rfl) (by decide) rfl rfl) (q_gname (pg_name nd_18 rfl (Or.inl rfl))) rfl rfl rfl)
    (q_sscons B.fl
    (q_asg (q_dctp true (.cons (q_sub B.xo (q_sub B.xo (q_var (pv 2)) (q_sub B.xo (q_var (pv 3)) (q_cst pe_int fun _ _ _ _ => .int _) fun _ _ => rfl) fun _ _ => rfl) (q_cst pe_int fun _ _ _ _ => .int _) fun _ _ => rfl) (q_cst pe_int fun _ _ _ _ => .int _) .nil) rfl rfl (List.cons_ne_nil _ _) (by decide)) (q_gname (pg_name nd_18 rfl (Or.inr rfl))) rfl rfl rfl)
    (q_sscons B.fl
    (q_for B.fl hp B.xo.calm (q_irng1 rfl T.z_range (q_cons (q_var (pv 1)) q_nil rfl) rfl) (q_gname (pg_name nd_18 rfl (Or.inl rfl))) (q_sscons B.fl
    (q_for B.fl hp B.xo.calm (q_ival B.xo (q_var (pv 2))) (q_gtup B.xo B.xo.calm (q_gcons B.fl (q_gname (pg_name nd_18 rfl (Or.inl rfl))) (q_gcons B.fl (q_gname (pg_name nd_18 rfl (Or.inl rfl))) q_gnil rfl) rfl) rfl rfl) (q_sscons B.fl
    (q_if B.fl (q_cmpT B.xo (q_var (pv 7)) (q_var (pv 4)) rfl) (q_sscons B.fl
    (q_asg (q_bi B.xo false fun _ h => pe_callB h rfl T.z_min bo_min (q_cons (q_mth B.xo .get false rfl (q_var (pv 4)) (q_cons (q_var (pv 6)) (q_cons (q_cst pe_int fun _ _ _ _ => .int _) q_nil rfl) rfl) rfl rfl rfl rfl rfl) (q_cons (q_bin B.xo false (q_sub B.xo (q_var (pv 4)) (q_var (pv 7)) fun _ _ => rfl) (q_cst pe_int fun _ _ _ _ => .int _)) q_nil rfl) rfl)) (q_gsub B.xo (q_var (pv 4)) (q_var (pv 6)) fun _ => rfl) rfl rfl rfl)
    q_ssnil) q_ssnil)
    q_ssnil) fun _ => rfl)
    q_ssnil) fun _ => rfl)
    (q_sscons B.fl
    (q_whl B.fl hp (q_cmpT B.xo (q_sub B.xo (q_sub B.xo (q_var (pv 2)) (q_sub B.xo (q_var (pv 3)) (q_neg (q_cst pe_int fun _ _ _ _ => .int _)) fun _ _ => rfl) fun _ _ => rfl) (q_cst pe_int fun _ _ _ _ => .int _) fun _ _ => rfl) (q_sub B.xo (q_sub B.xo (q_var (pv 2)) (q_sub B.xo (q_var (pv 3)) (q_cst pe_int fun _ _ _ _ => .int _) fun _ _ => rfl) fun _ _ => rfl) (q_cst pe_int fun _ _ _ _ => .int _) fun _ _ => rfl) (nomark _)) (q_sscons B.fl
    (q_asg (q_sub B.xo (q_sub B.xo (q_var (pv 2)) (q_sub B.xo (q_var (pv 3)) (q_neg (q_cst pe_int fun _ _ _ _ => .int _)) fun _ _ => rfl) fun _ _ => rfl) (q_cst pe_int fun _ _ _ _ => .int _) fun _ _ => rfl) (q_gname (pg_name nd_18 rfl (Or.inr rfl))) rfl rfl rfl)
    (q_sscons B.fl
    (q_setLc (own := [("_law_at", 10), ("_law_tie", 11)]) (i := 9) false B.xo.calm nd_18 rfl rfl rfl (by decide) (q_ienum B.xo rfl T.z_enumerate (q_cons (q_var (pv 2)) q_nil rfl) rfl) (blkOk_by rfl) (fun s1 H1 _ _ fp1 => (q_gtup (Bod.blk B s1 H1 _ _ fp1).xo (Bod.blk B s1 H1 _ _ fp1).xo.calm (q_gcons flx (q_gname (pg_name nd_18 rfl (Or.inl rfl))) (q_gcons flx (q_gname (pg_name nd_18 rfl (Or.inl rfl))) q_gnil rfl) rfl) rfl rfl)) (fun s1 H1 _ _ fp1 => (pts_one (PW.pt (q_andW (q_cmpT (Bod.blk B s1 H1 _ _ fp1).xo (q_sub (Bod.blk B s1 H1 _ _ fp1).xo (q_var (pv 11)) (q_cst pe_int fun _ _ _ _ => .int _) fun _ _ => rfl) (q_var (pv 8)) (nomark _)) (q_one1 (q_cmpT (Bod.blk B s1 H1 _ _ fp1).xo (q_sub (Bod.blk B s1 H1 _ _ fp1).xo (q_var (pv 4)) (q_sub (Bod.blk B s1 H1 _ _ fp1).xo (q_var (pv 11)) (q_cst pe_int fun _ _ _ _ => .int _) fun _ _ => rfl) fun _ _ => rfl) (q_sub (Bod.blk B s1 H1 _ _ fp1).xo (q_var (pv 4)) (q_var (pv 8)) fun _ _ => rfl) (nomark _))))))) (fun s1 H1 _ _ fp1 => (q_var (pv 10))) fun _ => rfl)
    (q_sscons B.fl
    (q_expr (q_mth B.xo .append false rfl (q_var (pv 3)) (q_cons (q_sub B.xo (q_var (pv 9)) (q_cst pe_int fun _ _ _ _ => .int _) fun _ _ => rfl) q_nil rfl) rfl rfl rfl rfl rfl) rfl)
    q_ssnil))))
    (q_sscons B.fl
    (q_ret (q_var (pv 3)))
    q_ssnil)))))
theorem nd_19 : nm_19.Nodup := by decide +kernel
theorem sc_19 : FnScope nm_19 ps_19 (defScope s_19) := ⟨rfl, rfl, rfl, nd_19, rfl, by decide +kernel, by decide +kernel⟩
theorem ok_19 (T : Txt K mg fa fd c) (FG : FGt P w K mg base fa fd c d) : FnG P w K mg base (2 * d + 2) (fa 19) (fd 19) ps_19 (spC c fun n0 ts R => runFn (gOf pg d) fn_19 n0 ts R) := by
  refine fnG_fun (N := nm_19) T.f_19 sc_19 T.hK rfl rfl fun cdv f A outer s H E B hp => ?_
  exact (q_sscons B.fl
    (q_asg (q_call (B.fn (FG 13)) B.r0 B.gd B.tk rfl T.m_13 T.f_13.kp T.b_13 (q_cons (q_var (pv 0)) (q_cons (q_cst pe_int fun _ _ _ _ => .int _) q_nil rfl) rfl) (by decide) rfl rfl) (q_gname (pg_name nd_19 rfl (Or.inl rfl))) rfl rfl rfl)
    (q_sscons B.fl
    (q_asg (q_call (B.fn (FG 15)) B.r0 B.gd B.tk rfl T.m_15 T.f_15.kp T.b_15 (q_cons (q_var (pv 1)) (q_cons (q_cst pe_int fun _ _ _ _ => .int _) (q_cons (q_cst pe_int fun _ _ _ _ => .int _) q_nil rfl) rfl) rfl) (by decide) rfl rfl) (q_gtup B.xo B.xo.calm (q_gcons B.fl (q_gname (pg_name nd_19 rfl (Or.inl rfl))) (q_gcons B.fl (q_gname (pg_name nd_19 rfl (Or.inl rfl))) q_gnil rfl) rfl) rfl rfl) rfl rfl rfl)
    (q_sscons B.fl
    (q_asg (q_tup (q_cons (q_make (k := 2 * d) (i := 4) (st := true) (B.init rfl) (B.mkc T.mk_Web) (B.fn (FG 4)) B.room B.gd B.tk rfl (B.mgc T.mg_Web) T.b_4 (q_cons (q_var (pv 2)) (q_cons (q_var (pv 3)) q_nil rfl) rfl) (by decide) rfl rfl) (q_cons (q_call (B.fn (FG 18)) B.r0 B.gd B.tk rfl T.m_18 T.f_18.kp T.b_18 (q_cons (q_var (pv 1)) (q_cons (q_var (pv 2)) (q_cons (q_var (pv 3)) q_nil rfl) rfl) rfl) (by decide) rfl rfl) q_nil rfl) rfl)) (q_gtup B.xo B.xo.calm (q_gcons B.fl (q_gname (pg_name nd_19 rfl (Or.inl rfl))) (q_gcons B.fl (q_gname (pg_name nd_19 rfl (Or.inr rfl))) q_gnil rfl) rfl) rfl rfl) rfl rfl rfl)
    (q_sscons B.fl
    (q_asg (q_bi B.xo false fun _ h => pe_callB h rfl T.z_repr bo_repr (q_cons (q_var (pv 5)) q_nil rfl)) (q_gname (pg_name nd_19 rfl (Or.inl rfl))) rfl rfl rfl)
    (q_sscons B.fl
    (q_for B.fl hp B.xo.calm (q_irng1 rfl T.z_range (q_cons (q_cst pe_int fun _ _ _ _ => .int _) q_nil rfl) rfl) (q_gname (pg_name nd_19 rfl (Or.inl rfl))) (q_sscons B.fl
    (q_asg (q_call (B.fn (FG 16)) B.r0 B.gd B.tk rfl T.m_16 T.f_16.kp T.b_16 (q_cons (q_var (pv 1)) (q_cons (q_var (pv 3)) (q_cons (q_bin B.xo false (q_cst pe_int fun _ _ _ _ => .int _) (q_call (B.fn (FG 14)) B.r0 B.gd B.tk rfl T.m_14 T.f_14.kp T.b_14 (q_cons (q_var (pv 1)) (q_cons (q_cst pe_int fun _ _ _ _ => .int _) q_nil rfl) rfl) (by decide) rfl rfl)) q_nil rfl) rfl) rfl) (by decide) rfl rfl) (q_gname (pg_name nd_19 rfl (Or.inl rfl))) rfl rfl rfl)
    (q_sscons B.fl
    (q_if B.fl (q_cmpT B.xo (q_var (pv 7)) (q_cst pe_int fun _ _ _ _ => .int _) (nomark _)) (q_sscons B.fl
    (q_asg (q_tup (q_cons (q_call (B.fn (FG 14)) B.r0 B.gd B.tk rfl T.m_14 T.f_14.kp T.b_14 (q_cons (q_var (pv 1)) (q_cons (q_bi B.xo false fun _ h => pe_callB h rfl T.z_len bo_len (q_cons (q_var (pv 5)) q_nil rfl)) q_nil rfl) rfl) (by decide) rfl rfl) (q_cons (q_bin B.xo false (q_cst pe_int fun _ _ _ _ => .int _) (q_call (B.fn (FG 14)) B.r0 B.gd B.tk rfl T.m_14 T.f_14.kp T.b_14 (q_cons (q_var (pv 1)) (q_cons (q_cst pe_int fun _ _ _ _ => .int _) q_nil rfl) rfl) (by decide) rfl rfl)) q_nil rfl) rfl)) (q_gtup B.xo B.xo.calm (q_gcons B.fl (q_gname (pg_name nd_19 rfl (Or.inr rfl))) (q_gcons B.fl (q_gname (pg_name nd_19 rfl (Or.inl rfl))) q_gnil rfl) rfl) rfl rfl) rfl rfl rfl)
    (q_sscons B.fl
    (q_setLc (own := [("_law_at", 13)]) (i := 8) false B.xo.calm nd_19 rfl rfl rfl (by decide) (q_irng1 rfl T.z_range (q_cons (q_var (pv 10)) q_nil rfl) rfl) (blkOk_by rfl) (fun s1 H1 _ _ fp1 => (q_gname (pg_name nd_19 rfl (Or.inl rfl)))) (fun s1 H1 _ _ fp1 => q_ptsnil) (fun s1 H1 _ _ fp1 => (q_sub (Bod.blk B s1 H1 _ _ fp1).xo (q_var (pv 5)) (q_bin (Bod.blk B s1 H1 _ _ fp1).xo false (q_bin (Bod.blk B s1 H1 _ _ fp1).xo false (q_var (pv 9)) (q_var (pv 13))) (q_bi (Bod.blk B s1 H1 _ _ fp1).xo false fun _ h => pe_callB h rfl T.z_len bo_len (q_cons (q_var (pv 5)) q_nil rfl))) fun _ _ => rfl)) fun _ => rfl)
    q_ssnil)) q_ssnil)
    (q_sscons B.fl
    (q_par B.xo.calm nd_19 rfl rfl (by decide) rfl rfl (q_cons (q_call (B.fn (FG 17)) B.r0 B.gd B.tk rfl T.m_17 T.f_17.kp T.b_17 (q_cons (q_var (pv 5)) (q_cons (q_var (pv 8)) q_nil rfl) rfl) (by decide) rfl rfl) (q_cons (q_call (B.fn (FG 14)) B.r0 B.gd B.tk rfl T.m_14 T.f_14.kp T.b_14 (q_cons (q_var (pv 1)) (q_cons (q_bi B.xo false fun _ h => pe_callB h rfl T.z_len bo_len (q_cons (q_var (pv 5)) q_nil rfl)) q_nil rfl) rfl) (by decide) rfl rfl) q_nil rfl) rfl) rfl rfl)
    (q_sscons B.fl
    (q_if B.fl (q_cmpT B.xo (q_callk0 (B.fn (FG 12)) B.r0 B.gd B.tk rfl T.m_12 T.f_12.kp T.kb_12_0_1_2 (q_kcons (q_var (pv 4)) (q_kcons (q_var (pv 5)) (q_kcons (q_var (pv 8)) q_knil))) rfl rfl rfl (by decide) rfl) (q_var (pv 11)) (nomark _)) (q_sscons B.fl
    (q_ret (q_cst pe_bl fun _ _ _ _ => .bl _))
    q_ssnil) q_ssnil)
    (q_sscons B.fl
    (q_if B.fl (q_cmpT B.xo (q_call (B.fn (FG 12)) B.r0 B.gd B.tk rfl T.m_12 T.f_12.kp T.b_12 (q_cons (q_var (pv 4)) (q_cons (q_bi B.xo false fun _ h => pe_callTy h rfl T.z_tuple bo_tuple (q_cons (q_bin B.xo false (q_slc B.xo false (q_var (pv 5)) (po_som (q_var (pv 12))) po_non) (q_slc B.xo false (q_var (pv 5)) po_non (po_som (q_var (pv 12))))) q_nil rfl)) (q_cons (q_bi B.xo false fun _ h => pe_callTy h rfl T.z_tuple bo_tuple (q_cons (q_var (pv 8)) q_nil rfl)) q_nil rfl) rfl) rfl) (by decide) rfl rfl) (q_var (pv 11)) (nomark _)) (q_sscons B.fl
    (q_ret (q_cst pe_bl fun _ _ _ _ => .bl _))
    q_ssnil) q_ssnil)
    (q_sscons B.fl
    (q_if B.fl (q_cmpT B.xo (q_call (B.fn (FG 12)) B.r0 B.gd B.tk rfl T.m_12 T.f_12.kp T.b_12 (q_cons (q_var (pv 4)) (q_cons (q_bin B.xo false (q_var (pv 5)) (q_var (pv 5))) (q_cons (q_var (pv 8)) q_nil rfl) rfl) rfl) (by decide) rfl rfl) (q_bin B.xo false (q_cst pe_int fun _ _ _ _ => .int _) (q_var (pv 11))) (nomark _)) (q_sscons B.fl
    (q_ret (q_cst pe_bl fun _ _ _ _ => .bl _))
    q_ssnil) q_ssnil)
    q_ssnil)))))) fun _ => rfl)
    (q_sscons B.fl
    (q_ret (q_cmp B.xo (q_bi B.xo false fun _ h => pe_callB h rfl T.z_repr bo_repr (q_cons (q_var (pv 5)) q_nil rfl)) (q_var (pv 6)) (nomark _)))
    q_ssnil))))))
theorem all_fn (T : Txt K mg fa fd c) : ∀ d, FGt P w K mg base fa fd c d
  | 0, i => FnG.no fun _ _ _ => rfl
  | d + 1, i => match i with
    | 0 => ok_0 T (all_fn T d)
    | 1 => ok_1 T (all_fn T d)
    | 2 => ok_2 T (all_fn T d)
    | 3 => ok_3 T (all_fn T d)
    | 4 => ok_4 T (all_fn T d)
    | 5 => ok_5 T (all_fn T d)
    | 6 => ok_6 T (all_fn T d)
    | 7 => ok_7 T (all_fn T d)
    | 8 => ok_8 T (all_fn T d)
    | 9 => ok_9 T (all_fn T d)
    | 10 => ok_10 T (all_fn T d)
    | 11 => ok_11 T (all_fn T d)
    | 12 => ok_12 T (all_fn T d)
    | 13 => ok_13 T (all_fn T d)
    | 14 => ok_14 T (all_fn T d)
    | 15 => ok_15 T (all_fn T d)
    | 16 => ok_16 T (all_fn T d)
    | 17 => ok_17 T (all_fn T d)
    | 18 => ok_18 T (all_fn T d)
    | 19 => ok_19 T (all_fn T d)
    | _ + 20 => FnG.no fun _ _ _ => rfl
end K63

/-! K63q: what the defs answer. -/
namespace K63
open Pv
theorem f0 (d n0 : Nat) (i : Int) (R : Rs) : callD pg (d + 1) n0 0 [.int i] R = .ok (.bl true) R := by
  rw [run_eq (F := fn_0) rfl]
  simp [runFn, bd_0, isaV, kdOf, tagOf, kdTag]
theorem f1 (d n0 : Nat) (i : Int) (h : 0 ≤ i) (R : Rs) : callD pg (d + 2) n0 1 [.int i] R = .ok (.bl true) R := by
  rw [run_eq (F := fn_1) rfl]
  simp [runFn, bd_1, gOf, f0, cmpV, h]
theorem f2 (d n0 : Nat) (v : TV) (R : Rs) (h : tagOf R v = some (.inl .lst) ∨ tagOf R v = some (.inl .tup)) : callD pg (d + 1) n0 2 [v] R = .ok (.bl true) R := by
  rw [run_eq (F := fn_2) rfl]
  rcases h with h | h <;> simp [runFn, bd_2, isaV, kdOf, h, kdTag]
theorem all_true (n : Nat) : blsOf ((List.range n).map fun _ => TV.bl true) = some (List.replicate n true) := by
  induction n with
  | zero => rfl
  | succ n ih =>
    rw [List.range_succ_eq_map, List.map_cons, List.map_map]
    show (blsOf (List.map (fun _ => TV.bl true) (List.range n))).map (true :: ·) = _
    rw [ih] <;> rfl
theorem all_rep (n : Nat) : (List.replicate n true).all id = true := by
  induction n with
  | zero => rfl
  | succ n ih => simpa using ih
/-- [is_count(one) for one in ..] -/
theorem cnt_comp {d n0 : Nat} {σ : Slots} {R : Rs} {it : It} {w : Wk} {j : Nat} {ns : List Nat} (hw : evI (gOf pg (d + 2)) n0 it σ R = .ok w R) (hj : j < σ.length) (hn : ns.length ≤ 100000) (hat : ∀ i, w.at i R = some (ns[i]?.map ti)) :
    evE (gOf pg (d + 2)) n0 (.comp false (.call 1 (.cons (.var j) .nil)) (.name j) it (.cst (.bl true)) [j]) σ R = .ok (.lst ((List.range ns.length).map fun _ => TV.bl true)) R := by
  refine (ev_map hw ns.length (fun _ => .bl true) hn (fun i hi => ?_) ?_).trans rfl
  · have h : w.at i R = some (some (ti ns[i])) := by rw [hat, List.getElem?_eq_getElem hi] <;> rfl
    rw [turn_at h]
    simp [evB, wipeT, hj, gOf, f1]
  · refine turn_end ?_
    rw [hat, List.getElem?_eq_none (Nat.le_refl _)] <;> rfl
end K63

namespace K63
open Pv
theorem allT (r : Bool) (n : Nat) (R : Rs) : biV .all r [.lst ((List.range n).map fun _ => TV.bl true)] R = .ok (.bl true) R := by
  rw [bi_all r R (all_true n), all_rep]
theorem f3 (d n0 : Nat) (p a b : Nat) (ha : a < p) (hb : b < p) (R : Rs) : callD pg (d + 3) n0 3 [ti p, tie (a, b)] R = .ok (.bl true) R := by
  rw [run_eq (F := fn_3) rfl]
  have hc : ∀ n1 σ, 2 < σ.length → σ[1]? = some (some (tie (a, b))) → evE (gOf pg (d + 2)) n1 (.comp false (.call 1 (.cons (.var 2) .nil)) (.name 2) (.val (.var 1)) (.cst (.bl true)) [2]) σ R = .ok (.lst ((List.range 2).map fun _ => TV.bl true)) R := fun n1 σ hσ h1 => by
    refine (cnt_comp (w := .tup [ti a, ti b]) (ns := [a, b]) ?_ hσ (by simp) (fun i => ?_)).trans rfl
    · simp [h1]
    · match i with
      | 0 => rfl
      | 1 => rfl
      | _ + 2 => rfl
  have hm : (maxI (a : Int) [(b : Int)]) < (p : Int) := by
    show (if (b : Int) > a then (b : Int) else a) < p
    split <;> omega
  have hm2 : ∀ r R, biV .max r [tie (a, b)] R = .ok (.int (maxI a [(b : Int)])) R := fun r R => bi_maxT r R rfl
  simp [runFn, bd_3, isaV, kdOf, tagOf, kdTag, hc, allT, hm2, hm]
/-- a list, a tuple, a root that is a list -/
inductive Kn where
  | tup | lst | root (k : Nat)
def sq (b : Kn) (xs : List TV) : TV := match b with
  | .tup => .tup xs
  | .lst => .lst xs
  | .root k => .root k
def Kn.ok (b : Kn) (xs : List TV) (R : Rs) : Prop := match b with
  | .root k => R[k]? = some (.lst xs)
  | _ => True
def wkS (b : Kn) (xs : List TV) : Wk := match b with
  | .tup => .tup xs
  | .lst => .lst (.lst xs)
  | .root k => .lst (.root k)
def wkZ (b : Kn) (xs ys : List TV) : Wk := match b with
  | .tup => .zipT xs ys
  | .lst => .zip (.lst xs) (.lst ys)
  | .root k => .zip (.root k) (.lst ys)
theorem at_sq {b : Kn} {xs : List TV} {R : Rs} (h : b.ok xs R) (i : Nat) : Wk.at (wkS b xs) i R = some xs[i]? := by
  cases b with
  | tup => rfl
  | lst => rfl
  | root k => exact at_root h i
theorem ev_sq {b : Kn} {xs : List TV} {R : Rs} (h : b.ok xs R) {G : Ga} {n0 j : Nat} {σ : Slots} (hj : σ[j]? = some (some (sq b xs))) : evI G n0 (.val (.var j)) σ R = .ok (wkS b xs) R := by
  rw [eI_val, eE_var, hj]
  cases b with
  | tup => rfl
  | lst => rfl
  | root k =>
    show (match asL R (.root k) with
      | some _ => Rz.ok (Wk.lst (.root k)) R
      | none => Rz.no) = _
    rw [asL_root h]
    rfl
theorem intsOf_tis : ∀ ns : List Nat, intsOf (tis ns) = some (ns.map (Int.ofNat ·))
  | [] => rfl
  | n :: ns => by
    show (intsOf (tis ns)).map ((n : Int) :: ·) = _
    rw [intsOf_tis ns] <;> rfl
theorem maxI_lt : ∀ (ns : List Int) (m k : Int), m < k → (∀ x ∈ ns, x < k) → maxI m ns < k
  | [], m, k, h, _ => h
  | x :: ns, m, k, h, h2 => by
    show maxI (if x > m then x else m) ns < k
    refine maxI_lt ns _ k ?_ fun y hy => h2 y (List.mem_cons_of_mem _ hy)
    split
    · exact h2 x List.mem_cons_self
    · exact h
theorem cut1 (xs : List TV) (h : 1 ≤ xs.length) : cutA xs (some 1) none = xs.tail := by
  unfold cutA
  have e1 : HT.sIx xs.length 0 (some 1) = 1 := by
    simp [HT.sIx]; omega
  have e2 : HT.sIx xs.length xs.length none = xs.length := by simp [HT.sIx]
  rw [e1, e2, List.drop_one, List.take_of_length_le]
  simp

/-- what xs[1:] is of such a value -/
def sq1 (b : Kn) (xs : List TV) : TV := match b with
  | .tup => .tup xs
  | _ => .lst xs
theorem cut1s {b : Kn} {xs : List TV} {R : Rs} (hk : b.ok xs R) (h : 1 ≤ xs.length) : slcV false (sq b xs) (some 1) none R = .ok (sq1 b xs.tail) R := by
  cases b with
  | lst =>
    show alloc false (.lst (cutA xs (some 1) none)) R = _
    rw [cut1 xs h] <;> rfl
  | tup =>
    show Rz.ok (TV.tup (cutA xs (some 1) none)) R = _
    rw [cut1 xs h] <;> rfl
  | root k =>
    show slcV false (.root k) (some 1) none R = _
    rw [slc_root hk, cut1 xs h] <;> rfl
theorem ev_zip1 {b : Kn} {xs : List TV} {R : Rs} (hk : b.ok xs R) (h : 1 ≤ xs.length) {G : Ga} {n0 : Nat} {σ : Slots} (hj : σ[1]? = some (some (sq b xs))) :
    evI G n0 (.zip (.var 1) (.slc false (.var 1) (.some (.cst (.int 1))) .none)) σ R = .ok (wkZ b xs xs.tail) R := by
  have e : evE G n0 (.slc false (.var 1) (.some (.cst (.int 1))) .none) σ R = .ok (sq1 b xs.tail) R := by
    rw [eE_slc, eE_var, hj]
    simp only [Rz.bind_ok, eO_some, eE_cst, eO_none]
    exact cut1s hk h
  rw [eI_zip, eE_var, hj]
  simp only [Rz.bind_ok]
  rw [e, Rz.bind_ok]
  cases b with
  | tup => rfl
  | lst => rfl
  | root k =>
    show (match asL R (.root k), asL R (.lst xs.tail) with
      | some _, some _ => Rz.ok (Wk.zip (.root k) (.lst xs.tail)) R
      | _, _ => Rz.no) = _
    rw [asL_root hk]
    rfl
theorem at_z {b : Kn} {xs ys : List TV} {R : Rs} (hk : b.ok xs R) (i : Nat) : Wk.at (wkZ b xs ys) i R = some (match xs[i]?, ys[i]? with
    | some x, some y => some (.tup [x, y])
    | _, _ => none) := by
  cases b with
  | tup => rfl
  | lst => rfl
  | root k => exact at_zipR hk i
theorem fkT (d : Nat) : (gOf pg d).fldk 0 "own_ties" = .fld := by
  show (if ("own_ties" : PySem.Str) ∈ (["own_places", "own_ties", "own_from", "own_to"] : List PySem.Str) then Fk.fld else Fk.no) = _
  rw [if_pos (by decide +kernel)]
@[simp] theorem asI_ins (R : Rs) (k : Nat) (fs : List (PySem.Str × TV)) : asI R (.ins k fs) = some (k, fs) := rfl
/-- ties joined one after another -/
def Joined (ps : List (Nat × Nat)) (ns : List Nat) : Prop := ∀ i a b, ns[i]? = some a → ns[i + 1]? = some b → ∃ p q, ps[a]? = some p ∧ ps[b]? = some q ∧ p.2 = q.1
theorem ties_at {ps : List (Nat × Nat)} {a : Nat} {p : Nat × Nat} (h : ps[a]? = some p) : (ties ps)[a]? = some (tie p) := by simp [ties, h]
theorem tie_0 (x y : TV) : L2.atI [x, y] 0 = some x := rfl
theorem tie_1 (x y : TV) : L2.atI [x, y] 1 = some y := rfl
theorem max_tis {ns : List Nat} {k : Nat} (hne : ns ≠ []) (h : ∀ a ∈ ns, a < k) : ∃ m : Int, (∀ b R r, Kn.ok b (tis ns) R → biV .max r [sq b (tis ns)] R = .ok (.int m) R) ∧ m < (k : Int) := by
  cases ns with
  | nil => exact absurd rfl hne
  | cons a ns =>
    refine ⟨maxI (a : Int) (ns.map (Int.ofNat ·)), fun b R r hk => ?_, maxI_lt _ _ _ (by have := h a List.mem_cons_self; omega) fun x hx => ?_⟩
    · have e : intsOf (tis (a :: ns)) = some ((a : Int) :: ns.map (Int.ofNat ·)) := intsOf_tis (a :: ns)
      cases b with
      | lst => exact bi_maxL r R e
      | tup => exact bi_maxT r R e
      | root k => exact bi_maxR hk e
    · obtain ⟨y, hy, rfl⟩ := List.mem_map.mp hx
      have := h y (List.mem_cons_of_mem _ hy)
      show (y : Int) < k
      omega
theorem tag_sq {b : Kn} {xs : List TV} {R : Rs} (h : b.ok xs R) : tagOf R (sq b xs) = some (.inl .lst) ∨ tagOf R (sq b xs) = some (.inl .tup) := by
  cases b with
  | lst => exact .inl rfl
  | tup => exact .inr rfl
  | root k => exact .inl (tag_root h)
theorem len_sq {b : Kn} {xs : List TV} {R : Rs} (h : b.ok xs R) (r : Bool) : biV .len r [sq b xs] R = .ok (.int (xs.length : Int)) R := by
  cases b with
  | lst => exact bi_len rfl
  | tup => exact bi_len rfl
  | root k => exact bi_len (len_root h)
theorem ix_sq {b : Kn} {xs : List TV} {R : Rs} (h : b.ok xs R) (i : Int) : ixV R (sq b xs) (.int i) = L2.atI xs i := by
  cases b with
  | lst => rfl
  | tup => rfl
  | root k => exact ixV_root i h
theorem list_sq {b : Kn} {xs : List TV} {R : Rs} (h : b.ok xs R) (r : Bool) : biV .list r [sq b xs] R = alloc r (.lst xs) R := by
  cases b with
  | lst => rfl
  | tup => rfl
  | root k => exact bi_listR h
theorem tup_sq {b : Kn} {xs : List TV} {R : Rs} (h : b.ok xs R) (r : Bool) : biV .tuple r [sq b xs] R = .ok (.tup xs) R := by
  cases b with
  | lst => rfl
  | tup => rfl
  | root k => exact bi_tupR h
theorem f6 (d n0 most : Nat) (b : Kn) (fs : List (PySem.Str × TV)) (ps : List (Nat × Nat)) (ns : List Nat) (R : Rs) (hk : b.ok (tis ns) R) (hfs : fs.lookup ("own_ties" : PySem.Str) = some (.tup (ties ps))) (hne : ns ≠ []) (hm : ns.length ≤ most) (hl : ns.length ≤ 100000) (hlt : ∀ a ∈ ns, a < ps.length) (hj : Joined ps ns) :
    callD pg (d + 3) n0 6 [.ins 0 fs, sq b (tis ns), ti most] R = .ok (.bl true) R := by
  rw [run_eq (F := fn_6) rfl]
  have h1 : 1 ≤ ns.length := by cases ns with
    | nil => exact absurd rfl hne
    | cons _ _ => simp
  have hc : ∀ n1 σ, 3 < σ.length → σ[1]? = some (some (sq b (tis ns))) → evE (gOf pg (d + 2)) n1 (.comp false (.call 1 (.cons (.var 3) .nil)) (.name 3) (.val (.var 1)) (.cst (.bl true)) [3]) σ R = .ok (.lst ((List.range ns.length).map fun _ => TV.bl true)) R := fun n1 σ hσ h1 => by
    refine cnt_comp (w := wkS b (tis ns)) (ev_sq hk h1) hσ hl (fun i => ?_)
    rw [at_sq hk]; simp [tis]
  have hc2 : ∀ n1 σ, σ.length = 6 → σ[0]? = some (some (.ins 0 fs)) → σ[1]? = some (some (sq b (tis ns))) → evE (gOf pg (d + 2)) n1 (.comp false (.cmp .Eq (.sub (.sub (.fld (.var 0) "own_ties") (.var 4)) (.cst (.int 1))) (.sub (.sub (.fld (.var 0) "own_ties") (.var 5)) (.cst (.int 0))))
      (.tup (.cons (.name 4) (.cons (.name 5) .nil))) (.zip (.var 1) (.slc false (.var 1) (.some (.cst (.int 1))) .none)) (.cst (.bl true)) [4, 5]) σ R = .ok (.lst ((List.range (ns.length - 1)).map fun _ => TV.bl true)) R := fun n1 σ hσ h0 h1' => by
    have hat : ∀ i, Wk.at (wkZ b (tis ns) (tis ns).tail) i R = some (match (tis ns)[i]?, (tis ns).tail[i]? with
        | some x, some y => some (.tup [x, y])
        | _, _ => none) := fun i => at_z hk i
    refine (ev_map (w := wkZ b (tis ns) (tis ns).tail) (ev_zip1 hk (by simpa using h1) h1') (ns.length - 1) (fun _ => .bl true) (by omega) (fun i hi => ?_) ?_).trans rfl
    · obtain ⟨a, ha⟩ : ∃ a, ns[i]? = some a := ⟨_, List.getElem?_eq_getElem (by omega)⟩
      obtain ⟨c, hc⟩ : ∃ c, ns[i + 1]? = some c := ⟨_, List.getElem?_eq_getElem (by omega)⟩
      obtain ⟨p, q, hp, hq, e⟩ := hj i a c ha hc
      rw [turn_at (v := .tup [ti a, ti c]) (by rw [hat]; simp [tis, ha, hc])]
      obtain ⟨s0, s1, s2, s3, s4, s5, rfl⟩ : ∃ s0 s1 s2 s3 s4 s5, σ = [s0, s1, s2, s3, s4, s5] := by
        match σ, hσ with
        | [s0, s1, s2, s3, s4, s5], _ => exact ⟨s0, s1, s2, s3, s4, s5, rfl⟩
      simp at h0 h1'
      subst h0 h1'
      simp [evB, wipeT, Tgs.len, fkT, hfs, ix_of (ties_at hp), ix_of (ties_at hq), tie_0, tie_1, e]
    · refine turn_end ?_
      rw [hat]
      have : (tis ns).tail[ns.length - 1]? = none := by rw [List.getElem?_eq_none]; simp
      rw [this]
      cases (tis ns)[ns.length - 1]? <;> rfl
  obtain ⟨m, hmax, hmlt⟩ := max_tis hne hlt
  have e2 := tag_sq hk
  have hlen : ∀ r, biV .len r [sq b (tis ns)] R = .ok (.int (ns.length : Int)) R := fun r => by rw [len_sq hk]; simp
  have hmax := hmax b R false hk
  have f2' := fun d n0 => f2 d n0 _ R e2
  have hg : ∀ n1 i vs R, (gOf pg (d + 2)).call n1 i vs R = callD pg (d + 2) n1 i vs R := fun _ _ _ _ => rfl
  have i1 : (1 : Int) ≤ (ns.length : Int) := by omega
  have i2 : (ns.length : Int) ≤ (most : Int) := by omega
  have i3 : ¬ ((ps.length : Int) ≤ m) := by omega
  simp [runFn, bd_6, hg, f2', hlen, i1, i2, i3, hc, hc2, allT, hmax, fkT, hfs]
end K63

namespace K63
open Pv
theorem settle_tis (n : Nat) (ns : List Nat) (R : Rs) : Pv.settle n (.lst (tis ns)) R = .ok (.lst (tis ns)) (R.take n) := by
  unfold Pv.settle
  simp [sub, subs_tis]
theorem bls_map (g : Nat → Bool) : ∀ l : List Nat, blsOf (l.map fun i => TV.bl (g i)) = some (l.map g)
  | [] => rfl
  | i :: l => by
    show (blsOf (l.map fun i => TV.bl (g i))).map (g i :: ·) = _
    rw [bls_map g l] <;> rfl
theorem allB (r : Bool) (l : List Nat) (g : Nat → Bool) (R : Rs) : biV .all r [.lst (l.map fun i => TV.bl (g i))] R = .ok (.bl (l.all g)) R := by
  rw [bi_all r R (bls_map g l)]
  congr 2
  induction l with
  | nil => rfl
  | cons a l ih => simp
theorem atI_last {xs : List TV} {n : Nat} (h : xs.length = n + 1) : L2.atI xs (-1) = xs[n]? := by
  unfold L2.atI L2.ixN
  rw [if_neg (by omega), if_pos (by omega)]
  show xs[((-1 : Int) + (xs.length : Int)).toNat]? = _
  congr 1
  omega
/-- a closed round -/
def Round (ps : List (Nat × Nat)) (ns : List Nat) : Prop := Joined ps ns ∧ ∃ a b p q, ns[0]? = some a ∧ ns[ns.length - 1]? = some b ∧ ps[a]? = some p ∧ ps[b]? = some q ∧ p.1 = q.2
section
variable {d n0 : Nat} {b : Kn} {fs : List (PySem.Str × TV)} {ps : List (Nat × Nat)} {ns : List Nat} {R : Rs}
theorem f7 (hk : b.ok (tis ns) R) (hfs : fs.lookup ("own_ties" : PySem.Str) = some (.tup (ties ps))) (hne : ns ≠ []) (hl : ns.length ≤ 400) (hlt : ∀ a ∈ ns, a < ps.length) (hj : Joined ps ns) :
    callD pg (d + 4) n0 7 [.ins 0 fs, sq b (tis ns)] R = .ok (.bl true) R := by
  rw [run_eq (F := fn_7) rfl]
  have hg : ∀ n1 i vs R, (gOf pg (d + 3)).call n1 i vs R = callD pg (d + 3) n1 i vs R := fun _ _ _ _ => rfl
  have h6 : ∀ n1, callD pg (d + 3) n1 6 [.ins 0 fs, sq b (tis ns), .int 400] R = .ok (.bl true) R := fun n1 => f6 d n1 400 b fs ps ns R hk hfs hne hl (by omega) hlt hj
  simp [runFn, bd_7, hg, h6]
theorem f8 (hk : b.ok (tis ns) R) (hfs : fs.lookup ("own_ties" : PySem.Str) = some (.tup (ties ps))) (hne : ns ≠ []) (hl : ns.length ≤ 100000) (hlt : ∀ a ∈ ns, a < ps.length) (hj : Round ps ns) :
    callD pg (d + 4) n0 8 [.ins 0 fs, sq b (tis ns)] R = .ok (.bl true) R := by
  rw [run_eq (F := fn_8) rfl]
  have hg : ∀ n1 i vs R, (gOf pg (d + 3)).call n1 i vs R = callD pg (d + 3) n1 i vs R := fun _ _ _ _ => rfl
  have h6 : ∀ n1, callD pg (d + 3) n1 6 [.ins 0 fs, sq b (tis ns), .int 200000] R = .ok (.bl true) R := fun n1 => f6 d n1 200000 b fs ps ns R hk hfs hne (by omega) hl hlt hj.1
  obtain ⟨_, a, z, p, q, ha, hz, hp, hq, e⟩ := hj
  have h1 : 1 ≤ ns.length := by cases ns with
    | nil => exact absurd rfl hne
    | cons _ _ => simp
  have x0 : ixV R (sq b (tis ns)) (.int 0) = some (ti a) := by
    have : L2.atI (tis ns) ((0 : Nat) : Int) = some (ti a) := ix_of (by simp [tis, ha])
    rw [ix_sq hk]; exact this
  have x1 : ixV R (sq b (tis ns)) (.int (-1)) = some (ti z) := by
    have : L2.atI (tis ns) (-1) = some (ti z) := by
      rw [atI_last (n := ns.length - 1) (by simp; omega)]
      simp [tis, hz]
    rw [ix_sq hk]; exact this
  simp [runFn, bd_8, hg, h6, fkT, hfs, x0, x1, ix_of (ties_at hp), ix_of (ties_at hq), tie_0, tie_1, e]
theorem f9 (hk : b.ok (tis ns) R) (hfs : fs.lookup ("own_ties" : PySem.Str) = some (.tup (ties ps))) (hne : ns ≠ []) (hl : ns.length ≤ 400) (hlt : ∀ a ∈ ns, a < ps.length) (hj : Joined ps ns) :
    callD pg (d + 5) n0 9 [.ins 0 fs, sq b (tis ns)] R = .ok (.lst (tis ns)) R := by
  rw [run_eq (F := fn_9) rfl]
  have hg : ∀ n1 i vs R, (gOf pg (d + 4)).call n1 i vs R = callD pg (d + 4) n1 i vs R := fun _ _ _ _ => rfl
  have h7 := fun n1 => f7 (d := d) (n0 := n1) (b := b) (R := R) hk hfs hne hl hlt hj
  have hl2 : biV .list false [sq b (tis ns)] R = .ok (.lst (tis ns)) R := list_sq hk false
  simp [runFn, bd_9, hg, h7, hl2]
  rw [settle_tis]; simp
theorem f10 (hk : b.ok (tis ns) R) (hfs : fs.lookup ("own_ties" : PySem.Str) = some (.tup (ties ps))) (hne : ns ≠ []) (hl : ns.length ≤ 100000) (hlt : ∀ a ∈ ns, a < ps.length) (hj : Round ps ns) :
    callD pg (d + 5) n0 10 [.ins 0 fs, sq b (tis ns)] R = .ok (.lst (tis ns)) R := by
  rw [run_eq (F := fn_10) rfl]
  have hg : ∀ n1 i vs R, (gOf pg (d + 4)).call n1 i vs R = callD pg (d + 4) n1 i vs R := fun _ _ _ _ => rfl
  have h8 := fun n1 => f8 (d := d) (n0 := n1) (b := b) (R := R) hk hfs hne hl hlt hj
  have hl2 : biV .list false [sq b (tis ns)] R = .ok (.lst (tis ns)) R := list_sq hk false
  simp [runFn, bd_10, hg, h8, hl2]
  rw [settle_tis]; simp
end

/-- the walk stands in the round at a place -/
def fits (S W : List Nat) (a : Nat) : Bool := (List.range W.length).all fun i => decide (S[(a + i) % S.length]? = W[i]?)
/-- how often -/
def times (S W : List Nat) : Nat := ((List.range S.length).filter (fits S W)).length
theorem modc (a i n : Nat) : ((a : Int) + (i : Int)) % (n : Int) = (((a + i) % n : Nat) : Int) := by rw [Int.natCast_emod, Int.natCast_add]
theorem get_mod {S : List Nat} (h : 0 < S.length) (a : Nat) : ∃ x, S[a % S.length]? = some x ∧ L2.atI (tis S) ((a % S.length : Nat) : Int) = some (ti x) := by
  have hl := Nat.mod_lt a h
  exact ⟨S[a % S.length], List.getElem?_eq_getElem hl, ix_of (by simp [tis, hl])⟩
theorem ti_inj (x y : Nat) : decide ((x : Int) = (y : Int)) = decide (x = y) := by
  rw [decide_eq_decide]; omega
/-- the test at one place -/
theorem fit_comp {d n0 : Nat} {S W : List Nat} {R : Rs} (hS : 0 < S.length) (hW : W.length ≤ 100000) (a : Nat) (f : Int) (s5 s6 : Option TV) :
    evE (gOf pg d) n0 (.bi .all false (.cons (.comp false (.cmp .Eq (.sub (.var 0) (.bin .Mod false (.bin .Add false (.var 4) (.var 5)) (.var 3))) (.var 6)) (.tup (.cons (.name 5) (.cons (.name 6) .nil))) (.enum (.var 1)) (.cst (.bl true)) [5, 6]) .nil))
      [some (.lst (tis S)), some (.lst (tis W)), some (.int f), some (.int S.length), some (.int a), s5, s6] R = .ok (.bl (fits S W a)) R := by
  have hc := ev_map (G := gOf pg d) (n0 := n0) (ie := .cmp .Eq (.sub (.var 0) (.bin .Mod false (.bin .Add false (.var 4) (.var 5)) (.var 3))) (.var 6)) (iif := .cst (.bl true)) (t := .tup (.cons (.name 5) (.cons (.name 6) .nil))) (it := .enum (.var 1)) (own := [5, 6]) (r := false)
    (σ := [some (.lst (tis S)), some (.lst (tis W)), some (.int f), some (.int S.length), some (.int a), s5, s6]) (R := R) (R1 := R) (w := .enum (.lst (tis W))) (by simp) W.length (fun i => .bl (decide (S[(a + i) % S.length]? = W[i]?))) hW
    (fun i hi => by
      obtain ⟨y, hy⟩ : ∃ y, W[i]? = some y := ⟨_, List.getElem?_eq_getElem hi⟩
      obtain ⟨x, hx, hx2⟩ := get_mod hS (a + i)
      rw [turn_at (v := .tup [ti i, ti y]) (by simp [tis, hy])]
      have hpos : (0 : Int) < (S.length : Int) := by omega
      simp [evB, wipeT, Tgs.len, hS]
      rw [modc, hx2]
      simp [hx, hy]
      omega)
    (turn_end (by simp [tis]))
  simp [hc, allB, fits]

theorem times_succ (S W : List Nat) (n : Nat) : ((List.range (n + 1)).filter (fits S W)).length = ((List.range n).filter (fits S W)).length + if fits S W n then 1 else 0 := by
  rw [List.range_succ, List.filter_append, List.length_append]
  congr 1
  by_cases h : fits S W n = true
  · simp [h]
  · simp [h]
/-- the loop of times_by -/
def lp11 : Sm := .for (.name 4) (.rng1 (.var 3)) (.cons (.ifs (.bi .all false (.cons (.comp false (.cmp .Eq (.sub (.var 0) (.bin .Mod false (.bin .Add false (.var 4) (.var 5)) (.var 3))) (.var 6)) (.tup (.cons (.name 5) (.cons (.name 6) .nil))) (.enum (.var 1)) (.cst (.bl true)) [5, 6]) .nil)) (.cons (.asg (.name 2) (.bin .Add false (.var 2) (.cst (.int 1)))) .nil) .nil) .nil)
theorem f11_loop {d n1 : Nat} {S W : List Nat} {R : Rs} (hS : 0 < S.length) (hSl : S.length ≤ 100000) (hW : W.length ≤ 100000) :
    ∃ s4, evS (gOf pg d) n1 lp11 [some (.lst (tis S)), some (.lst (tis W)), some (.int 0), some (.int S.length), none, none, none] R = .ok (.nx, [some (.lst (tis S)), some (.lst (tis W)), some (ti (times S W)), some (.int S.length), s4, none, none]) R := by
  have key : (evS (gOf pg d) n1 lp11 [some (.lst (tis S)), some (.lst (tis W)), some (.int 0), some (.int S.length), none, none, none] R).wp
        fun r R1 => (∃ s4, r = (.nx, [some (.lst (tis S)), some (.lst (tis W)), some (ti (times S W)), some (.int S.length), s4, none, none])) ∧ R1 = R := by
    unfold lp11
    rw [evS_for]
    have hz : evI (gOf pg d) n1 (.rng1 (.var 3)) [some (.lst (tis S)), some (.lst (tis W)), some (.int 0), some (.int S.length), none, none, none] R = .ok (.rng 0 S.length) R := ev_rng hSl (by simp)
    rw [hz, Rz.bind_ok]
    refine for_wp S.length (by show S.length < 1000000; omega) (fun i σ R1 => ∃ s4, σ = [some (.lst (tis S)), some (.lst (tis W)), some (ti ((List.range i).filter (fits S W)).length), some (.int S.length), s4, none, none] ∧ R1 = R) ⟨none, rfl, rfl⟩ ?_ ?_
    · rintro i σ R1 hi ⟨s4, rfl, rfl⟩
      have h4 := fun s5 s6 => fit_comp (d := d) (n0 := n1) (R := R1) hS hW i ((((List.range i).filter (fits S W)).length : Nat) : Int) s5 s6
      unfold forTurn
      have hat : Wk.at (.rng 0 S.length) i R1 = some (some (ti i)) := by simp [hi]
      rw [hat]
      cases hf : fits S W i with
      | true =>
        rw [hf] at h4
        simp only [eT_name, Rz.bind_ok, eSs_cons, eS_ifs, List.set_cons_succ, List.set_cons_zero, h4, truV_bl, eSs_nil, eS_asg, eE_bin, eE_var, eE_cst, List.getElem?_cons_succ, List.getElem?_cons_zero, add_int, wp_ok]
        refine ⟨some (ti i), ?_, trivial⟩
        rw [times_succ, hf]
        simp
      | false =>
        rw [hf] at h4
        simp only [eT_name, Rz.bind_ok, eSs_cons, eS_ifs, List.set_cons_succ, List.set_cons_zero, h4, truV_bl, eSs_nil, wp_ok]
        refine ⟨some (ti i), ?_, trivial⟩
        rw [times_succ, hf]
        simp
    · rintro σ R1 ⟨s4, rfl, rfl⟩
      unfold forTurn
      have hat : Wk.at (.rng 0 S.length) S.length R1 = some none := by simp
      rw [hat]
      exact ⟨rfl, ⟨s4, rfl⟩, rfl⟩
  
  generalize hr : evS (gOf pg d) n1 lp11 [some (.lst (tis S)), some (.lst (tis W)), some (.int 0), some (.int S.length), none, none, none] R = r at key ⊢
  cases r with
  | ok a R1 =>
    obtain ⟨⟨s4, h1⟩, h2⟩ := key
    subst h1 h2
    exact ⟨s4, rfl⟩
  | exc _ _ _ => exact False.elim key
  | no => exact False.elim key
theorem tup2 {G : Ga} {n1 : Nat} {a b : Ex} {σ : Slots} {R R1 R2 : Rs} {x y : TV} (ha : evE G n1 a σ R = .ok x R1) (hb : evE G n1 b σ R1 = .ok y R2) : evE G n1 (.tup (.cons a (.cons b .nil))) σ R = .ok (.tup [x, y]) R2 := by
  have hmax : decide (([x, y] : List TV).length ≤ PySem.sizeLine) = true := decide_eq_true (by show 2 ≤ PySem.sizeLine; decide +kernel)
  rw [eE_tup, es_cons, ha, Rz.bind_ok, es_cons, hb, Rz.bind_ok, es_nil, Rz.bind_ok, Rz.bind_ok, Rz.bind_ok, hmax, guardR_true]
abbrev bdx : Sms := .cons (.asg (.tup (.cons (.name 2) (.cons (.name 3) (.nil)))) (.tup (.cons (.cst (.int 0)) (.cons (.bi .len false (.cons (.var 0) (.nil))) (.nil))))) (.cons lp11 (.cons (.ret (.var 2)) .nil))
theorem z1 {d n0 : Nat} {S W : List Nat} {R : Rs} (x : Rz TV) (h : (evSs (gOf pg d) R.length bdx [some (.lst (tis S)), some (.lst (tis W)), none, none, none, none, none] R).bind (fun r R1 => match retOf r with
    | some v => Pv.settle R.length v R1
    | none => .no) = x) : callD pg (d + 1) n0 11 [.lst (tis S), .lst (tis W)] R = x := by
  rw [run_eq (F := fn_11) rfl, run_tree bdx [some (.lst (tis S)), some (.lst (tis W)), none, none, none, none, none] rfl rfl rfl rfl]
  exact h
theorem z2 {d : Nat} {S W : List Nat} {R : Rs} : evS (gOf pg d) R.length (.asg (.tup (.cons (.name 2) (.cons (.name 3) (.nil)))) (.tup (.cons (.cst (.int 0)) (.cons (.bi .len false (.cons (.var 0) (.nil))) (.nil))))) [some (.lst (tis S)), some (.lst (tis W)), none, none, none, none, none] R = .ok (.nx, [some (.lst (tis S)), some (.lst (tis W)), some (.int 0), some (.int S.length), none, none, none]) R := by
    rw [eS_asg, tup2 (x := .int 0) (y := .int S.length) (R1 := R) (R2 := R) (by simp) (by simp)]
    simp [Tgs.len]
theorem seq3 {G : Ga} {n1 : Nat} {s1 s2 : Sm} {e : Ex} {σ σ1 σ2 : Slots} {R R1 R2 R3 : Rs} {v : TV} (h1 : evS G n1 s1 σ R = .ok (.nx, σ1) R1) (h2 : evS G n1 s2 σ1 R1 = .ok (.nx, σ2) R2) (h3 : evE G n1 e σ2 R2 = .ok v R3) :
    evSs G n1 (.cons s1 (.cons s2 (.cons (.ret e) .nil))) σ R = .ok (.rt v, σ2) R3 := by
  rw [eSs_cons, h1, Rz.bind_ok]
  show evSs G n1 (.cons s2 (.cons (.ret e) .nil)) σ1 R1 = _
  rw [eSs_cons, h2, Rz.bind_ok]
  show evSs G n1 (.cons (.ret e) .nil) σ2 R2 = _
  rw [eSs_cons, eS_ret, h3]
  rfl
theorem z3 {d : Nat} {S W : List Nat} {R : Rs} {s4 : Option TV} {σ : Slots}
  (a1 : evS (gOf pg d) R.length (.asg (.tup (.cons (.name 2) (.cons (.name 3) (.nil)))) (.tup (.cons (.cst (.int 0)) (.cons (.bi .len false (.cons (.var 0) (.nil))) (.nil))))) σ R = .ok (.nx, [some (.lst (tis S)), some (.lst (tis W)), some (.int 0), some (.int S.length), none, none, none]) R)
  (e : evS (gOf pg d) R.length lp11 [some (.lst (tis S)), some (.lst (tis W)), some (.int 0), some (.int S.length), none, none, none] R = .ok (.nx, [some (.lst (tis S)), some (.lst (tis W)), some (ti (times S W)), some (.int S.length), s4, none, none]) R) :
  evSs (gOf pg d) R.length (.cons (.asg (.tup (.cons (.name 2) (.cons (.name 3) (.nil)))) (.tup (.cons (.cst (.int 0)) (.cons (.bi .len false (.cons (.var 0) (.nil))) (.nil))))) (.cons lp11 (.cons (.ret (.var 2)) .nil))) σ R = .ok (.rt (ti (times S W)), [some (.lst (tis S)), some (.lst (tis W)), some (ti (times S W)), some (.int S.length), s4, none, none]) R :=
  seq3 a1 e (by simp)
theorem f11 {d n0 : Nat} {S W : List Nat} {R : Rs} (hS : 0 < S.length) (hSl : S.length ≤ 100000) (hW : W.length ≤ 100000) : callD pg (d + 1) n0 11 [.lst (tis S), .lst (tis W)] R = .ok (ti (times S W)) R :=
  (f11_loop (d := d) (n1 := R.length) (R := R) hS hSl hW).elim fun s4 e => z1 _ (by
    rw [z3 z2 e, Rz.bind_ok]
    show Pv.settle R.length (ti (times S W)) R = _
    rw [settle_int, List.take_length])
end K63

/-! K63t: times_in, _law_times. -/
namespace K63
open Pv
theorem f5 {d n0 : Nat} {fs : List (PySem.Str × TV)} {R : Rs} (hcl : ∀ f, sub f (.ins 0 fs) = some (.ins 0 fs)) : callD pg (d + 1) n0 5 [.ins 0 fs] R = .ok (.ins 0 fs) R := by
  have hk : ∀ R, isaV (gOf pg d) R (.ins 0 fs) [.own 0] = some true := fun R => rfl
  rw [run_eq (F := fn_5) rfl]
  simp [runFn, bd_5, hk]
  unfold Pv.settle
  simp [hcl]
theorem f5' {k n0 : Nat} {fs : List (PySem.Str × TV)} {R : Rs} (hk : 1 ≤ k) (hcl : ∀ f, sub f (.ins 0 fs) = some (.ins 0 fs)) : callD pg k n0 5 [.ins 0 fs] R = .ok (.ins 0 fs) R := by
  obtain ⟨d, rfl⟩ : ∃ d, k = d + 1 := ⟨k - 1, by omega⟩
  exact f5 hcl
theorem f11' {k n0 : Nat} {S W : List Nat} {R : Rs} (hk : 1 ≤ k) (hS : 0 < S.length) (hSl : S.length ≤ 100000) (hW : W.length ≤ 100000) : callD pg k n0 11 [.lst (tis S), .lst (tis W)] R = .ok (ti (times S W)) R := by
  obtain ⟨d, rfl⟩ : ∃ d, k = d + 1 := ⟨k - 1, by omega⟩
  exact f11 hS hSl hW
section
variable {d n1 : Nat} {x y z w v : TV} {R : Rs} {t : Nat}
theorem y1 (h5 : ∀ n1, callD pg (d + 5) n1 5 [x] R = .ok x R) : evS (gOf pg (d + 5)) n1 (.asg (.name 3) (.call 5 (.cons (.var 0) .nil))) [some x, some y, some z, none, none] R = .ok (.nx, [some x, some y, some z, some x, none]) R := by
  have hg : ∀ n1 i vs R, (gOf pg (d + 5)).call n1 i vs R = callD pg (d + 5) n1 i vs R := fun _ _ _ _ => rfl
  simp [hg, h5]
theorem y2 (h5 : ∀ n1, callD pg (d + 5) n1 10 [x, y] R = .ok w R) : evS (gOf pg (d + 5)) n1 (.asg (.name 4) (.call 10 (.cons (.var 3) (.cons (.var 1) .nil)))) [some x, some y, some z, some x, none] R = .ok (.nx, [some x, some y, some z, some x, some w]) R := by
  have hg : ∀ n1 i vs R, (gOf pg (d + 5)).call n1 i vs R = callD pg (d + 5) n1 i vs R := fun _ _ _ _ => rfl
  simp [hg, h5]
theorem y3 (h9 : ∀ n1, callD pg (d + 5) n1 9 [x, z] R = .ok v R) (h11 : ∀ n1, callD pg (d + 5) n1 11 [w, v] R = .ok (ti t) R) : evE (gOf pg (d + 5)) n1 (.call 11 (.cons (.var 4) (.cons (.call 9 (.cons (.var 3) (.cons (.var 2) .nil))) .nil))) [some x, some y, some z, some x, some w] R = .ok (ti t) R := by
  have hg : ∀ n1 i vs R, (gOf pg (d + 5)).call n1 i vs R = callD pg (d + 5) n1 i vs R := fun _ _ _ _ => rfl
  simp [hg, h9, h11]
theorem y4 (h5 : ∀ n1, callD pg (d + 5) n1 5 [x] R = .ok x R) (h10 : ∀ n1, callD pg (d + 5) n1 10 [x, y] R = .ok w R) (h9 : ∀ n1, callD pg (d + 5) n1 9 [x, z] R = .ok v R) (h11 : ∀ n1, callD pg (d + 5) n1 11 [w, v] R = .ok (ti t) R) : evSs (gOf pg (d + 5)) n1 bd_12 [some x, some y, some z, none, none] R = .ok (.rt (ti t), [some x, some y, some z, some x, some w]) R :=
  seq3 (y1 h5) (y2 h10) (y3 h9 h11)
end
theorem f12 {d n0 : Nat} {b1 b2 : Kn} {fs : List (PySem.Str × TV)} {ps : List (Nat × Nat)} {S W : List Nat} {R : Rs} (hk1 : b1.ok (tis S) R) (hk2 : b2.ok (tis W) R) (hcl : ∀ f, sub f (.ins 0 fs) = some (.ins 0 fs)) (hfs : fs.lookup ("own_ties" : PySem.Str) = some (.tup (ties ps))) (hS : S ≠ []) (hSl : S.length ≤ 100000) (hSt : ∀ a ∈ S, a < ps.length) (hSr : Round ps S)
    (hW : W ≠ []) (hWl : W.length ≤ 400) (hWt : ∀ a ∈ W, a < ps.length) (hWj : Joined ps W) : callD pg (d + 6) n0 12 [.ins 0 fs, sq b1 (tis S), sq b2 (tis W)] R = .ok (ti (times S W)) R := by
  have hg : ∀ n1 i vs R, (gOf pg (d + 5)).call n1 i vs R = callD pg (d + 5) n1 i vs R := fun _ _ _ _ => rfl
  have h5 : ∀ n1, callD pg (d + 5) n1 5 [.ins 0 fs] R = .ok (.ins 0 fs) R := fun n1 => f5' (by omega) hcl
  have h10 : ∀ n1, callD pg (d + 5) n1 10 [.ins 0 fs, sq b1 (tis S)] R = .ok (.lst (tis S)) R := fun n1 => f10 (d := d) hk1 hfs hS hSl hSt hSr
  have h9 : ∀ n1, callD pg (d + 5) n1 9 [.ins 0 fs, sq b2 (tis W)] R = .ok (.lst (tis W)) R := fun n1 => f9 (d := d) hk2 hfs hW hWl hWt hWj
  have h0 : 0 < S.length := List.length_pos_iff.mpr hS
  have h11 : ∀ n1, callD pg (d + 5) n1 11 [.lst (tis S), .lst (tis W)] R = .ok (ti (times S W)) R := fun n1 => f11' (by omega) h0 hSl (by omega)
  rw [run_eq (F := fn_12) rfl, run_tree bd_12 [some (.ins 0 fs), some (sq b1 (tis S)), some (sq b2 (tis W)), none, none] rfl rfl rfl rfl, y4 h5 h10 h9 h11, Rz.bind_ok]
  show Pv.settle R.length (ti (times S W)) R = _
  rw [settle_int, List.take_length]
/-! ### _law_times -/
/-- the places at which the walk doesn't stand -/
def bads (S W : List Nat) (a : Nat) : List Nat := (List.range W.length).filter fun i => !decide (S[(a + i) % S.length]? = W[i]?)
theorem bads_nil (S W : List Nat) (a : Nat) : decide (bads S W a = []) = fits S W a := by
  unfold bads fits
  rw [Bool.eq_iff_iff, decide_eq_true_iff, List.filter_eq_nil_iff, List.all_eq_true]
  constructor
  · intro h x hx
    have := h x hx
    simpa using this
  · intro h x hx
    have := h x hx
    simpa using this
theorem bads_map (S W : List Nat) (a : Nat) : (List.range W.length).filterMap (fun i => if decide (S[(a + i) % S.length]? = W[i]?) = true then none else some (ti i)) = tis (bads S W a) := by
  unfold bads
  generalize List.range W.length = l
  induction l with
  | nil => rfl
  | cons x l ih =>
    rw [List.filterMap_cons, ih, List.filter_cons]
    by_cases h : S[(a + x) % S.length]? = W[x]?
    · simp [h]
    · simp [h]
abbrev cmp17 : Ex := .comp false (.var 5) (.tup (.cons (.name 5) (.cons (.name 6) (.nil)))) (.enum (.var 1)) (.cmp .NotEq (.sub (.var 0) (.bin .Mod false (.bin .Add false (.var 3) (.var 5)) (.bi .len false (.cons (.var 0) (.nil))))) (.var 6)) [5, 6]
def wkE (b : Kn) (xs : List TV) : Wk := match b with
  | .tup => .enumT xs
  | .lst => .enum (.lst xs)
  | .root k => .enum (.root k)
theorem at_E {b : Kn} {xs : List TV} {R : Rs} (h : b.ok xs R) (i : Nat) : Wk.at (wkE b xs) i R = some (xs[i]?.map fun x => .tup [.int i, x]) := by
  cases b with
  | tup => rfl
  | lst => rfl
  | root k => exact at_enumR h i
theorem ev_enum {b : Kn} {xs : List TV} {R : Rs} (h : b.ok xs R) {G : Ga} {n0 j : Nat} {σ : Slots} (hj : σ[j]? = some (some (sq b xs))) : evI G n0 (.enum (.var j)) σ R = .ok (wkE b xs) R := by
  rw [eI_enum, eE_var, hj]
  cases b with
  | tup => rfl
  | lst => rfl
  | root k =>
    show (match asL R (.root k) with
      | some _ => Rz.ok (Wk.enum (.root k)) R
      | none => Rz.no) = _
    rw [asL_root h]
    rfl
theorem bad_comp {d n0 : Nat} {b : Kn} {S W : List Nat} {R : Rs} (hk : b.ok (tis W) R) (hS : 0 < S.length) (hW : W.length ≤ 100000) (a : Nat) (f : Int) (s4 s5 s6 : Option TV) :
    evE (gOf pg d) n0 cmp17 [some (.lst (tis S)), some (sq b (tis W)), some (.int f), some (.int a), s4, s5, s6] R = .ok (.lst (tis (bads S W a))) R := by
  have hc := ev_comp (G := gOf pg d) (n0 := n0) (ie := .var 5) (iif := .cmp .NotEq (.sub (.var 0) (.bin .Mod false (.bin .Add false (.var 3) (.var 5)) (.bi .len false (.cons (.var 0) (.nil))))) (.var 6)) (t := .tup (.cons (.name 5) (.cons (.name 6) .nil))) (it := .enum (.var 1)) (own := [5, 6]) (r := false)
    (σ := [some (.lst (tis S)), some (sq b (tis W)), some (.int f), some (.int a), s4, s5, s6]) (R := R) (R1 := R) (w := wkE b (tis W)) (ev_enum hk rfl) W.length (fun i => if decide (S[(a + i) % S.length]? = W[i]?) = true then none else some (ti i)) hW
    (fun i hi => by
      obtain ⟨y, hy⟩ : ∃ y, W[i]? = some y := ⟨_, List.getElem?_eq_getElem hi⟩
      obtain ⟨x, hx, hx2⟩ := get_mod hS (a + i)
      rw [turn_at (v := .tup [ti i, ti y]) (by rw [at_E hk]; simp [tis, hy])]
      simp [evB, wipeT, Tgs.len, hS]
      rw [modc, hx2]
      by_cases h : x = y
      · subst h; simp [hx, hy]
      · have h2 : ¬ ((x : Int) = (y : Int)) := by omega
        simp [hx, hy, h, h2])
    (turn_end (by rw [at_E hk]; simp [tis]))
  rw [bads_map] at hc
  exact hc
/-- the loop of _law_times -/
def lp17 : Sm := .for (.name 3) (.rng1 (.bi .len false (.cons (.var 0) (.nil)))) (.cons (.asg (.name 4) cmp17) (.cons (.asg (.name 2) (.bin .Add false (.var 2) (.bi .int false (.cons (.cmp .Eq (.var 4) (.lst false (.nil))) (.nil))))) (.nil)))
theorem one17 {d n1 : Nat} {b : Kn} {S W : List Nat} {R : Rs} (hk : b.ok (tis W) R) (hS : 0 < S.length) (hW : W.length ≤ 100000) (i f : Nat) (s4 : Option TV) :
    evSs (gOf pg d) n1 (.cons (.asg (.name 4) cmp17) (.cons (.asg (.name 2) (.bin .Add false (.var 2) (.bi .int false (.cons (.cmp .Eq (.var 4) (.lst false (.nil))) (.nil))))) (.nil))) [some (.lst (tis S)), some (sq b (tis W)), some (ti f), some (ti i), s4, none, none] R =
      .ok (.nx, [some (.lst (tis S)), some (sq b (tis W)), some (ti (f + if fits S W i then 1 else 0)), some (ti i), some (.lst (tis (bads S W i))), none, none]) R := by
  have h1 : evS (gOf pg d) n1 (.asg (.name 4) cmp17) [some (.lst (tis S)), some (sq b (tis W)), some (ti f), some (ti i), s4, none, none] R = .ok (.nx, [some (.lst (tis S)), some (sq b (tis W)), some (ti f), some (ti i), some (.lst (tis (bads S W i))), none, none]) R := by
    rw [eS_asg, bad_comp hk hS hW i f s4 none none, Rz.bind_ok, eT_name]
    rfl
  have he : ∀ R, eqT R (.lst (tis (bads S W i))) (.lst []) = some (fits S W i) := fun R => by
    have := eqT_tis R (bads S W i) []
    rw [bads_nil] at this
    exact this
  have hz : decide (([] : List TV).length ≤ PySem.sizeLine) = true := rfl
  have h2 : evS (gOf pg d) n1 (.asg (.name 2) (.bin .Add false (.var 2) (.bi .int false (.cons (.cmp .Eq (.var 4) (.lst false (.nil))) (.nil))))) [some (.lst (tis S)), some (sq b (tis W)), some (ti f), some (ti i), some (.lst (tis (bads S W i))), none, none] R =
      .ok (.nx, [some (.lst (tis S)), some (sq b (tis W)), some (ti (f + if fits S W i then 1 else 0)), some (ti i), some (.lst (tis (bads S W i))), none, none]) R := by
    simp [he]
    cases fits S W i <;> simp
  rw [eSs_cons, h1, Rz.bind_ok]
  show evSs (gOf pg d) n1 (.cons (.asg (.name 2) (.bin .Add false (.var 2) (.bi .int false (.cons (.cmp .Eq (.var 4) (.lst false (.nil))) (.nil))))) (.nil)) _ R = _
  rw [eSs_cons, h2, Rz.bind_ok]
  show evSs (gOf pg d) n1 .nil _ R = _
  rw [eSs_nil]
theorem f17_loop {d n1 : Nat} {b : Kn} {S W : List Nat} {R : Rs} (hk : b.ok (tis W) R) (hS : 0 < S.length) (hSl : S.length ≤ 100000) (hW : W.length ≤ 100000) :
    ∃ s3 s4, evS (gOf pg d) n1 lp17 [some (.lst (tis S)), some (sq b (tis W)), some (ti 0), none, none, none, none] R = .ok (.nx, [some (.lst (tis S)), some (sq b (tis W)), some (ti (times S W)), s3, s4, none, none]) R := by
  have key : (evS (gOf pg d) n1 lp17 [some (.lst (tis S)), some (sq b (tis W)), some (ti 0), none, none, none, none] R).wp
        fun r R1 => (∃ s3 s4, r = (.nx, [some (.lst (tis S)), some (sq b (tis W)), some (ti (times S W)), s3, s4, none, none])) ∧ R1 = R := by
    unfold lp17
    rw [evS_for, ev_rng (R1 := R) hSl (by simp), Rz.bind_ok]
    refine for_wp S.length (by show S.length < 1000000; omega) (fun i σ R1 => (∃ s3 s4, σ = [some (.lst (tis S)), some (sq b (tis W)), some (ti ((List.range i).filter (fits S W)).length), s3, s4, none, none]) ∧ R1 = R) ⟨⟨none, none, rfl⟩, rfl⟩ ?_ ?_
    · rintro i σ R1 hi ⟨⟨s3, s4, rfl⟩, rfl⟩
      have ht : forTurn (gOf pg d) n1 (.name 3) (.cons (.asg (.name 4) cmp17) (.cons (.asg (.name 2) (.bin .Add false (.var 2) (.bi .int false (.cons (.cmp .Eq (.var 4) (.lst false (.nil))) (.nil))))) (.nil))) (.rng 0 S.length) i [some (.lst (tis S)), some (sq b (tis W)), some (ti ((List.range i).filter (fits S W)).length), s3, s4, none, none] R1
          = .ok (some (.nx, [some (.lst (tis S)), some (sq b (tis W)), some (ti (((List.range i).filter (fits S W)).length + if fits S W i then 1 else 0)), some (ti i), some (.lst (tis (bads S W i))), none, none])) R1 := by
        unfold forTurn
        have hat : Wk.at (.rng 0 S.length) i R1 = some (some (ti i)) := by simp [hi]
        rw [hat]
        show (evT (gOf pg d) n1 (.name 3) (ti i) _ R1).bind _ = _
        rw [eT_name, Rz.bind_ok]
        show (evSs (gOf pg d) n1 _ [some (.lst (tis S)), some (sq b (tis W)), some (ti ((List.range i).filter (fits S W)).length), some (ti i), s4, none, none] R1).bind _ = _
        rw [one17 hk hS hW, Rz.bind_ok]
      rw [ht, wp_ok]
      refine ⟨⟨some (ti i), some (.lst (tis (bads S W i))), ?_⟩, rfl⟩
      rw [times_succ]
    · rintro σ R1 ⟨⟨s3, s4, rfl⟩, rfl⟩
      unfold forTurn
      have hat : Wk.at (.rng 0 S.length) S.length R1 = some none := by simp
      rw [hat]
      exact ⟨rfl, ⟨s3, s4, rfl⟩, rfl⟩
  generalize hr : evS (gOf pg d) n1 lp17 [some (.lst (tis S)), some (sq b (tis W)), some (ti 0), none, none, none, none] R = r at key ⊢
  cases r with
  | ok a R1 =>
    obtain ⟨⟨s3, s4, h1⟩, h2⟩ := key
    subst h1 h2
    exact ⟨s3, s4, rfl⟩
  | exc _ _ _ => exact False.elim key
  | no => exact False.elim key
theorem f17 {d n0 : Nat} {b : Kn} {S W : List Nat} {R : Rs} (hk : b.ok (tis W) R) (hS : 0 < S.length) (hSl : S.length ≤ 100000) (hW : W.length ≤ 100000) : callD pg (d + 1) n0 17 [.lst (tis S), sq b (tis W)] R = .ok (ti (times S W)) R := by
  have hl := f17_loop (d := d) (n1 := R.length) (R := R) hk hS hSl hW
  refine hl.elim fun s3 hl => hl.elim fun s4 e => ?_
  have h1 : evS (gOf pg d) R.length (.asg (.name 2) (.cst (.int 0))) [some (.lst (tis S)), some (sq b (tis W)), none, none, none, none, none] R = .ok (.nx, [some (.lst (tis S)), some (sq b (tis W)), some (ti 0), none, none, none, none]) R := by simp
  have h3 : evE (gOf pg d) R.length (.var 2) [some (.lst (tis S)), some (sq b (tis W)), some (ti (times S W)), s3, s4, none, none] R = .ok (ti (times S W)) R := by rw [eE_var] <;> rfl
  rw [run_eq (F := fn_17) rfl, run_tree (.cons (.asg (.name 2) (.cst (.int 0))) (.cons lp17 (.cons (.ret (.var 2)) .nil))) [some (.lst (tis S)), some (sq b (tis W)), none, none, none, none, none] rfl rfl rfl rfl, seq3 h1 e h3, Rz.bind_ok]
  show Pv.settle R.length (ti (times S W)) R = _
  rw [settle_int, List.take_length]
end K63

/-! K63u: the draws. -/
namespace K63
open Pv
/-- the pot: a root with two numbers, the first not below 0 -/
def Pot (R : Rs) (k : Nat) : Prop := ∃ a b : Int, R[k]? = some (.lst [.int a, .int b]) ∧ 0 ≤ a
theorem put0 {n k : Nat} {a b x : Int} {R : Rs} (h : R[k]? = some (.lst [.int a, .int b])) : putIx n (.root k) (.int 0) (.int x) R = some (R.set k (.lst [.int x, .int b])) := by
  unfold putIx
  simp only [h]
  show setR n k (.lst [.int x, .int b]) [.int x] R = _
  unfold setR
  have : ([TV.int x].all (mayPut n k)) = true := by simp [mayPut, hb]
  rw [this] <;> rfl
theorem put1 {n k : Nat} {a b x : Int} {R : Rs} (h : R[k]? = some (.lst [.int a, .int b])) : putIx n (.root k) (.int 1) (.int x) R = some (R.set k (.lst [.int a, .int x])) := by
  unfold putIx
  simp only [h]
  show setR n k (.lst [.int a, .int x]) [.int x] R = _
  unfold setR
  have : ([TV.int x].all (mayPut n k)) = true := by simp [mayPut, hb]
  rw [this] <;> rfl
section
variable {G : Ga} {n1 k : Nat} {a b m : Int} {R : Rs} {s2 : Option TV}
theorem sub0 (h : R[k]? = some (.lst [.int a, .int b])) : evE G n1 (.sub (.var 0) (.cst (.int 0))) [some (.root k), some (.int m), s2] R = .ok (.int a) R := by
  have := ixV_root 0 h
  simp [this]
  rfl
theorem sub1 (h : R[k]? = some (.lst [.int a, .int b])) : evE G n1 (.sub (.var 0) (.cst (.int 1))) [some (.root k), some (.int m), s2] R = .ok (.int b) R := by
  have := ixV_root 1 h
  simp [this]
  rfl
/-- a draw, the pot not empty -/
theorem draw_a (h : R[k]? = some (.lst [.int a, .int b])) (ha : 0 < a) (hm : 0 < m) (hm2 : m < 1073741824) :
    evSs G n1 bd_14 [some (.root k), some (.int m), none] R = .ok (.rt (.int (a % m)), [some (.root k), some (.int m), some (.int (a % m))]) (R.set k (.lst [.int (a / m), .int b])) := by
  have h1 : evE G n1 (.bi .divmod false (.cons (.sub (.var 0) (.cst (.int 0))) (.cons (.var 1) (.nil)))) [some (.root k), some (.int m), none] R = .ok (.tup [.int (a / m), .int (a % m)]) R := by
    rw [eE_bi, es_cons, sub0 h]
    simp [hm, hm2]
  have h2 : evT G n1 (.tup (.cons (.sub (.var 0) (.cst (.int 0))) (.cons (.name 2) (.nil)))) (.tup [.int (a / m), .int (a % m)]) [some (.root k), some (.int m), none] R = .ok [some (.root k), some (.int m), some (.int (a % m))] (R.set k (.lst [.int (a / m), .int b])) := by
    rw [eT_tup]
    show guardR true (evTs G n1 _ _ _ R) = _
    rw [guardR_true, eTs_cons, eT_sub]
    simp only [eE_var, eE_cst, List.getElem?_cons_zero, Rz.bind_ok, put0 h, eTs_cons, eT_name, eTs_nil]
    rfl
  have h3 : evE G n1 (.cmp .Gt (.sub (.var 0) (.cst (.int 0))) (.cst (.int 0))) [some (.root k), some (.int m), none] R = .ok (.bl true) R := by
    rw [eE_cmp, sub0 h]
    simp [ha]
  unfold bd_14
  rw [eSs_cons, eS_ifs, h3]
  simp only [Rz.bind_ok, truV_bl]
  rw [eSs_cons, eS_asg, h1]
  simp only [Rz.bind_ok]
  rw [h2]
  simp only [Rz.bind_ok]
  rw [eSs_cons, eS_ret, eE_var]
  rfl
/-- a draw, the pot empty -/
theorem draw_b (h : R[k]? = some (.lst [.int a, .int b])) (ha : ¬ 0 < a) (hm : 0 < m) :
    evSs G n1 bd_14 [some (.root k), some (.int m), none] R = .ok (.rt (.int ((b * 39373 + 8581) % 2147483587 * ((b * 39373 + 8581) % 2147483587) % 2147483563 / 19 % m)), [some (.root k), some (.int m), none]) (R.set k (.lst [.int a, .int ((b * 39373 + 8581) % 2147483587)])) := by
  have hk := (List.getElem?_eq_some_iff.mp h).1
  generalize hb2 : (b * 39373 + 8581) % 2147483587 = b2
  have hb3 : 0 ≤ b2 ∧ b2 < 2147483587 := by omega
  have h3 : evE G n1 (.cmp .Gt (.sub (.var 0) (.cst (.int 0))) (.cst (.int 0))) [some (.root k), some (.int m), none] R = .ok (.bl false) R := by
    rw [eE_cmp, sub0 h]
    simp [ha]
  have h1 : evE G n1 (.bin .Mod false (.bi .int false (.cons (.bin .Add false (.bin .Mult false (.sub (.var 0) (.cst (.int 1))) (.cst (.int 39373))) (.cst (.int 8581))) (.nil))) (.cst (.int 2147483587))) [some (.root k), some (.int m), none] R = .ok (.int b2) R := by
    rw [eE_bin, eE_bi, es_cons, eE_bin, eE_bin, sub1 h]
    simp [hb2]
  have hR : (R.set k (.lst [.int a, .int b2]))[k]? = some (.lst [.int a, .int b2]) := by rw [List.getElem?_set_self hk]
  have h2 : evT G n1 (.sub (.var 0) (.cst (.int 1))) (.int b2) [some (.root k), some (.int m), none] R = .ok [some (.root k), some (.int m), none] (R.set k (.lst [.int a, .int b2])) := by
    rw [eT_sub]
    simp only [eE_var, eE_cst, List.getElem?_cons_zero, Rz.bind_ok, put1 h]
  have h4 : evE G n1 (.bin .Mod false (.bi .int false (.cons (.bin .FloorDiv false (.bin .Mod false (.bi .int false (.cons (.bin .Mult false (.sub (.var 0) (.cst (.int 1))) (.sub (.var 0) (.cst (.int 1)))) (.nil))) (.cst (.int 2147483563))) (.cst (.int 19))) (.nil))) (.var 1)) [some (.root k), some (.int m), none] (R.set k (.lst [.int a, .int b2])) = .ok (.int (b2 * b2 % 2147483563 / 19 % m)) (R.set k (.lst [.int a, .int b2])) := by
    have g1 : b2 < 18446744073709551616 := by omega
    have g2 : -18446744073709551616 < b2 := by omega
    have e1 : evE G n1 (.bin .Mult false (.sub (.var 0) (.cst (.int 1))) (.sub (.var 0) (.cst (.int 1)))) [some (.root k), some (.int m), none] (R.set k (.lst [.int a, .int b2])) = .ok (.int (b2 * b2)) (R.set k (.lst [.int a, .int b2])) := by
      rw [eE_bin, sub1 hR, Rz.bind_ok, sub1 hR, Rz.bind_ok]
      simp [g1, g2]
    rw [eE_bin, eE_bi, es_cons, eE_bin, eE_bin, eE_bi, es_cons, e1]
    simp [hm]
  unfold bd_14
  rw [eSs_cons, eS_ifs, h3]
  simp only [Rz.bind_ok, truV_bl, eSs_nil]
  rw [eSs_cons, eS_asg, h1]
  simp only [Rz.bind_ok]
  rw [h2]
  simp only [Rz.bind_ok]
  rw [eSs_cons, eS_ret, h4]
  rfl
end
theorem take_set {R : Rs} {k : Nat} {o : RO} : (R.set k o).take R.length = R.set k o := by rw [List.take_of_length_le]; simp
/-- a draw below m -/
theorem f14 {d n0 k : Nat} {m : Int} {R : Rs} (hp : Pot R k) (hm : 0 < m) (hm2 : m < 1073741824) : ∃ (x : Nat) (a b : Int), callD pg (d + 1) n0 14 [.root k, .int m] R = .ok (ti x) (R.set k (.lst [.int a, .int b])) ∧ (x : Int) < m ∧ 0 ≤ a := by
  obtain ⟨a, b, h, ha⟩ := hp
  have key : ∃ (y a' b' : Int) (σ : Slots), evSs (gOf pg d) R.length bd_14 [some (.root k), some (.int m), none] R = .ok (.rt (.int y), σ) (R.set k (.lst [.int a', .int b'])) ∧ 0 ≤ y ∧ y < m ∧ 0 ≤ a' := by
    by_cases h0 : 0 < a
    · exact ⟨_, _, _, _, draw_a h h0 hm hm2, Int.emod_nonneg _ (by omega), Int.emod_lt_of_pos _ hm, Int.ediv_nonneg ha (by omega)⟩
    · exact ⟨_, _, _, _, draw_b h h0 hm, Int.emod_nonneg _ (by omega), Int.emod_lt_of_pos _ hm, ha⟩
  refine key.elim fun y key => key.elim fun a' key => key.elim fun b' key => key.elim fun σ key => ?_
  obtain ⟨x, rfl⟩ : ∃ x : Nat, y = (x : Int) := ⟨y.toNat, by omega⟩
  refine ⟨x, a', b', ?_, key.2.2.1, key.2.2.2⟩
  rw [run_eq (F := fn_14) rfl, run_tree bd_14 [some (.root k), some (.int m), none] rfl rfl rfl rfl, key.1, Rz.bind_ok]
  show Pv.settle R.length (ti x) _ = _
  rw [settle_int, take_set]
theorem len_klst (xs : List TV) (R : Rs) : lenV R (.klst xs) = some xs.length := rfl
/-- the pot made -/
theorem f13 {d n0 : Nat} (ns : List Int) : ∃ a b : Int, callD pg (d + 1) n0 13 [.klst (ns.map TV.int), .int 0] [] = .ok (.root 0) [.lst [.int a, .int b]] ∧ 0 ≤ a := by
  have h1 : ∃ c : Int, evS (gOf pg d) 0 (.asg (.name 2) (.ifx (.cmp .Lt (.var 1) (.bi .len false (.cons (.var 0) (.nil)))) (.bi .abs false (.cons (.sub (.var 0) (.var 1)) (.nil))) (.bin .Add false (.bin .Mult false (.cst (.int 887)) (.var 1)) (.cst (.int 857))))) [some (.klst (ns.map TV.int)), some (.int 0), none] [] = .ok (.nx, [some (.klst (ns.map TV.int)), some (.int 0), some (.int c)]) [] := by
    have hl : biV .len false [.klst (ns.map TV.int)] [] = .ok (.int ((ns.map TV.int).length : Int)) [] := bi_len rfl
    cases ns with
    | nil =>
      refine ⟨857, ?_⟩
      rw [eS_asg, eE_ifx]
      simp [hl]
      rw [show biV .len false [.klst []] [] = .ok (.int 0) [] from bi_len rfl]
      simp
    | cons n ns =>
      refine ⟨if n < 0 then -n else n, ?_⟩
      have hx : L2.atI (TV.int n :: ns.map TV.int) 0 = some (.int n) := ix_of (i := 0) rfl
      have hp : (0 : Int) < ((ns.length : Int) + 1) := by omega
      rw [eS_asg, eE_ifx]
      simp at hl
      simp [hl, hx, hp]
  refine h1.elim fun c h1 => ?_
  have hmax : ∀ x y : TV, decide (([x, y] : List TV).length ≤ PySem.sizeLine) = true := fun x y => decide_eq_true (by show 2 ≤ PySem.sizeLine; decide +kernel)
  have e1 : ∀ R, evE (gOf pg d) 0 (.bi .max true (.cons (.cst (.int 0)) (.cons (.bin .Sub false (.var 2) (.bin .Pow false (.cst (.int 10)) (.cst (.int 18)))) (.nil)))) [some (.klst (ns.map TV.int)), some (.int 0), some (.int c)] R = .ok (.int (if c - 10 ^ 18 > 0 then c - 10 ^ 18 else 0)) R := fun R => by
    simp
  have e2 : ∀ R, ∃ y, evE (gOf pg d) 0 (.bin .Add true (.bin .Mod false (.bi .int false (.cons (.bin .Add false (.bin .Add false (.bin .Mult false (.bin .Mod false (.bi .int false (.cons (.var 2) (.nil))) (.cst (.int 2147483549))) (.cst (.int 48271))) (.bin .Mult false (.cst (.int 8581)) (.var 1))) (.cst (.int 31))) (.nil))) (.cst (.int 2147483563))) (.cst (.int 1))) [some (.klst (ns.map TV.int)), some (.int 0), some (.int c)] R = .ok (.int y) R := fun R => ⟨_, by simp; rfl⟩
  refine (e2 []).elim fun y e2 => ?_
  refine ⟨if c - 10 ^ 18 > 0 then c - 10 ^ 18 else 0, y, ?_, by split <;> omega⟩
  have h2 : evSs (gOf pg d) 0 bd_13 [some (.klst (ns.map TV.int)), some (.int 0), none] [] = .ok (.rt (.root 0), [some (.klst (ns.map TV.int)), some (.int 0), some (.int c)]) [.lst [.int (if c - 10 ^ 18 > 0 then c - 10 ^ 18 else 0), .int y]] := by
    unfold bd_13
    rw [eSs_cons, h1]
    simp only [Rz.bind_ok]
    rw [eSs_cons, eS_ret, eE_lst, es_cons, e1, Rz.bind_ok, es_cons, e2, Rz.bind_ok, es_nil, Rz.bind_ok, Rz.bind_ok, Rz.bind_ok, hmax, guardR_true]
    rfl
  rw [run_eq (F := fn_13) rfl, run_root bd_13 [some (.klst (ns.map TV.int)), some (.int 0), none] rfl rfl rfl rfl]
  show (evSs (gOf pg d) 0 bd_13 [some (.klst (ns.map TV.int)), some (.int 0), none] []).bind _ = _
  rw [h2, Rz.bind_ok]
  rfl
end K63

/-! K63v: the drawn walk. -/
namespace K63
open Pv
theorem Pot.set {R : Rs} {a b : Int} (h : 0 < R.length) (ha : 0 ≤ a) : Pot (R.set 0 (.lst [.int a, .int b])) 0 := ⟨a, b, by rw [List.getElem?_set_self h], ha⟩
theorem Pot.len {R : Rs} {k : Nat} (h : Pot R k) : k < R.length := by
  obtain ⟨a, b, h, _⟩ := h
  exact (List.getElem?_eq_some_iff.mp h).1
/-- the ties that begin where p ends -/
def nexts (ps : List (Nat × Nat)) (v : Nat) : List Nat := (List.range ps.length).filter fun i => decide ((ps[i]?.map (·.1)) = some v)
abbrev cmp16 : Ex := .comp false (.var 5) (.tup (.cons (.name 5) (.cons (.name 6) (.nil)))) (.enum (.var 1)) (.cmp .Eq (.sub (.var 6) (.cst (.int 0))) (.sub (.sub (.var 1) (.sub (.var 3) (.neg (.cst (.int 1))))) (.cst (.int 1)))) [5, 6]
theorem nexts_map (ps : List (Nat × Nat)) (v : Nat) : (List.range ps.length).filterMap (fun i => if decide ((ps[i]?.map (·.1)) = some v) = true then some (ti i) else none) = tis (nexts ps v) := by
  unfold nexts
  generalize List.range ps.length = l
  induction l with
  | nil => rfl
  | cons x l ih =>
    rw [List.filterMap_cons, ih, List.filter_cons]
    by_cases h : (ps[x]?.map (·.1)) = some v
    · simp [h]
    · simp [h]
theorem next_comp {d n0 N : Nat} {ps : List (Nat × Nat)} {ws : List Nat} {R : Rs} {s0 s2 s4 s5 s6 : Option TV} (hl : ps.length ≤ 1000) (hR : R[N]? = some (.lst (tis ws))) {z : Nat} {p : Nat × Nat} (hz : ws[ws.length - 1]? = some z) (hne : ws ≠ []) (hp : ps[z]? = some p) :
    evE (gOf pg d) n0 cmp16 [s0, some (.lst (ties ps)), s2, some (.root N), s4, s5, s6] R = .ok (.lst (tis (nexts ps p.2))) R := by
  have h1 : 1 ≤ ws.length := List.length_pos_iff.mpr hne
  have hlast : L2.atI (tis ws) (-1) = some (ti z) := by
    rw [atI_last (n := ws.length - 1) (by simp; omega)]
    simp [hz]
  have hroot : ixV R (.root N) (.int (-1)) = some (ti z) := by rw [ixV_root _ hR]; exact hlast
  have hps : L2.atI (ties ps) (z : Int) = some (tie p) := ix_of (ties_at hp)
  have hc := ev_comp (G := gOf pg d) (n0 := n0) (ie := .var 5) (iif := .cmp .Eq (.sub (.var 6) (.cst (.int 0))) (.sub (.sub (.var 1) (.sub (.var 3) (.neg (.cst (.int 1))))) (.cst (.int 1)))) (t := .tup (.cons (.name 5) (.cons (.name 6) .nil))) (it := .enum (.var 1)) (own := [5, 6]) (r := false)
    (σ := [s0, some (.lst (ties ps)), s2, some (.root N), s4, s5, s6]) (R := R) (R1 := R) (w := .enum (.lst (ties ps))) (by simp) ps.length (fun i => if decide ((ps[i]?.map (·.1)) = some p.2) = true then some (ti i) else none) (by omega)
    (fun i hi => by
      obtain ⟨q, hq⟩ : ∃ q, ps[i]? = some q := ⟨_, List.getElem?_eq_getElem hi⟩
      rw [turn_at (v := .tup [ti i, tie q]) (by simp [hq])]
      have t0 : ∀ x y : TV, L2.atI [x, y] 0 = some x := fun _ _ => rfl
      have t1 : ∀ x y : TV, L2.atI [x, y] 1 = some y := fun _ _ => rfl
      by_cases h : q.1 = p.2
      · simp [evB, wipeT, Tgs.len, hroot, hps, t0, t1, hq, h]
      · have h2 : ¬ ((q.1 : Int) = (p.2 : Int)) := by omega
        simp [evB, wipeT, Tgs.len, hroot, hps, t0, t1, hq, h, h2])
    (turn_end (by simp))
  rw [nexts_map] at hc
  exact hc
theorem nexts_ne {ps : List (Nat × Nat)} {v : Nat} (h : ∃ q ∈ ps, q.1 = v) : 0 < (nexts ps v).length := by
  obtain ⟨q, hq, e⟩ := h
  obtain ⟨i, hi⟩ := List.getElem?_of_mem hq
  have hl := (List.getElem?_eq_some_iff.mp hi).1
  have : i ∈ nexts ps v := by
    unfold nexts
    rw [List.mem_filter]
    exact ⟨List.mem_range.mpr hl, by simp [hi, e]⟩
  exact List.length_pos_of_mem this
theorem nexts_spec {ps : List (Nat × Nat)} {v i : Nat} (h : i ∈ nexts ps v) : ∃ q, ps[i]? = some q ∧ q.1 = v := by
  unfold nexts at h
  rw [List.mem_filter] at h
  have h2 := of_decide_eq_true h.2
  cases q : ps[i]? with
  | none => rw [q] at h2; cases h2
  | some p => rw [q] at h2; exact ⟨p, rfl, Option.some.inj h2⟩
theorem joined_snoc {ps : List (Nat × Nat)} {ws : List Nat} {z i : Nat} {p q : Nat × Nat} (hj : Joined ps ws) (hz : ws[ws.length - 1]? = some z) (hp : ps[z]? = some p) (hq : ps[i]? = some q) (e : q.1 = p.2) : Joined ps (ws ++ [i]) := by
  intro j a b ha hb
  have hl : j + 1 < (ws ++ [i]).length := (List.getElem?_eq_some_iff.mp hb).1
  rw [List.length_append, List.length_singleton] at hl
  by_cases h : j + 1 < ws.length
  · rw [List.getElem?_append_left (by omega)] at ha
    rw [List.getElem?_append_left h] at hb
    exact hj j a b ha hb
  · have : j + 1 = ws.length := by omega
    rw [List.getElem?_append_left (by omega)] at ha
    rw [List.getElem?_append_right (by omega)] at hb
    have hj1 : ws.length - 1 = j := by omega
    rw [hj1, ha] at hz
    cases hz
    have : j + 1 - ws.length = 0 := by omega
    rw [this] at hb
    cases hb
    exact ⟨p, q, hp, hq, e.symm⟩
abbrev bdy16 : Sms := .cons (.asg (.name 4) cmp16) (.cons (.expr (.mth .append false (.var 3) (.cons (.sub (.var 4) (.call 14 (.cons (.var 0) (.cons (.bi .len false (.cons (.var 4) (.nil))) (.nil))))) (.nil)))) (.nil))
theorem app_root {n k : Nat} {xs : List TV} {i : Nat} {R : Rs} (h : R[k]? = some (.lst xs)) (hl : xs.length ≤ 100000) : mthV n .append (.root k) [ti i] R = .ok .non (R.set k (.lst (xs ++ [ti i]))) := by
  show (match R[k]? with
    | some (.lst xs) => guardR (decide (xs.length < PySem.sizeLine) && mayPut n k (ti i)) (Rz.ok TV.non (R.set k (.lst (xs ++ [ti i]))))
    | _ => Rz.no) = _
  rw [h]
  have e1 : decide (xs.length < PySem.sizeLine) = true := decide_eq_true (Nat.lt_of_le_of_lt hl (by decide +kernel))
  have e2 : mayPut n k (ti i) = true := by simp [mayPut, hb]
  show guardR (decide (xs.length < PySem.sizeLine) && mayPut n k (ti i)) _ = _
  rw [e1, e2]
  rfl
theorem body16 {d n1 N : Nat} {ps : List (Nat × Nat)} {ws : List Nat} {R : Rs} {many : Int} {s4 : Option TV} (hN : 0 < N) (hp0 : Pot R 0) (hl : ps.length ≤ 1000) (hwl : ws.length ≤ 100000) (hR : R[N]? = some (.lst (tis ws))) {z : Nat} {p : Nat × Nat} (hz : ws[ws.length - 1]? = some z) (hne : ws ≠ []) (hp : ps[z]? = some p) (hout : ∃ q ∈ ps, q.1 = p.2) :
    ∃ (i : Nat) (a b : Int), i ∈ nexts ps p.2 ∧ 0 ≤ a ∧ evSs (gOf pg (d + 1)) n1 bdy16 [some (.root 0), some (.lst (ties ps)), some (.int many), some (.root N), s4, none, none] R =
      .ok (.nx, [some (.root 0), some (.lst (ties ps)), some (.int many), some (.root N), some (.lst (tis (nexts ps p.2))), none, none]) ((R.set 0 (.lst [.int a, .int b])).set N (.lst (tis (ws ++ [i])))) := by
  have h1 : evS (gOf pg (d + 1)) n1 (.asg (.name 4) cmp16) [some (.root 0), some (.lst (ties ps)), some (.int many), some (.root N), s4, none, none] R = .ok (.nx, [some (.root 0), some (.lst (ties ps)), some (.int many), some (.root N), some (.lst (tis (nexts ps p.2))), none, none]) R := by
    rw [eS_asg, next_comp hl hR hz hne hp, Rz.bind_ok, eT_name]
    rfl
  have hn := nexts_ne hout
  have hn2 : (nexts ps p.2).length ≤ 1000 := by
    refine Nat.le_trans (List.length_filter_le _ _) ?_
    simpa using hl
  have hd := f14 (d := d) (n0 := n1) (m := ((nexts ps p.2).length : Int)) hp0 (by omega) (by omega)
  refine hd.elim fun x hd => hd.elim fun a hd => hd.elim fun b hd => ?_
  obtain ⟨hcall, hx, ha⟩ := hd
  obtain ⟨i, hi⟩ : ∃ i, (nexts ps p.2)[x]? = some i := ⟨_, List.getElem?_eq_getElem (by omega)⟩
  refine ⟨i, a, b, List.mem_of_getElem? hi, ha, ?_⟩
  have hix : L2.atI (tis (nexts ps p.2)) (x : Int) = some (ti i) := ix_of (by simp [hi])
  have hRN : (R.set 0 (.lst [.int a, .int b]))[N]? = some (.lst (tis ws)) := by rw [List.getElem?_set_ne (by omega)]; exact hR
  have h2 : evE (gOf pg (d + 1)) n1 (.sub (.var 4) (.call 14 (.cons (.var 0) (.cons (.bi .len false (.cons (.var 4) (.nil))) (.nil))))) [some (.root 0), some (.lst (ties ps)), some (.int many), some (.root N), some (.lst (tis (nexts ps p.2))), none, none] R = .ok (ti i) (R.set 0 (.lst [.int a, .int b])) := by
    have hg : (gOf pg (d + 1)).call n1 14 [.root 0, .int ((nexts ps p.2).length : Int)] R = .ok (ti x) (R.set 0 (.lst [.int a, .int b])) := hcall
    simp [hg, hix]
  have h3 : evS (gOf pg (d + 1)) n1 (.expr (.mth .append false (.var 3) (.cons (.sub (.var 4) (.call 14 (.cons (.var 0) (.cons (.bi .len false (.cons (.var 4) (.nil))) (.nil))))) (.nil)))) [some (.root 0), some (.lst (ties ps)), some (.int many), some (.root N), some (.lst (tis (nexts ps p.2))), none, none] R =
      .ok (.nx, [some (.root 0), some (.lst (ties ps)), some (.int many), some (.root N), some (.lst (tis (nexts ps p.2))), none, none]) ((R.set 0 (.lst [.int a, .int b])).set N (.lst (tis (ws ++ [i])))) := by
    have hok : mtOk .append (.root N) R = true := by
      show (asLm R (.root N)).isSome = true
      rw [asLm_root hR] <;> rfl
    rw [eS_expr, eE_mth, eE_var]
    show (guardR (mtOk .append (.root N) R) ((evs (gOf pg (d + 1)) n1 _ _ R).bind fun vs R2 => mthV n1 .append (.root N) vs R2)).bind _ = _
    rw [hok, guardR_true, es_cons, h2, Rz.bind_ok, es_nil, Rz.bind_ok, Rz.bind_ok, app_root hRN (by simpa using hwl), Rz.bind_ok]
    simp
  rw [eSs_cons, h1, Rz.bind_ok]
  show evSs (gOf pg (d + 1)) n1 (.cons (.expr _) .nil) _ R = _
  rw [eSs_cons, h3, Rz.bind_ok]
  show evSs (gOf pg (d + 1)) n1 .nil _ _ = _
  rw [eSs_nil]
/-- every tie has a tie behind it -/
def Outs (ps : List (Nat × Nat)) : Prop := ∀ p ∈ ps, ∃ q ∈ ps, q.1 = p.2
/-- a walk over the ties -/
structure Walk (ps : List (Nat × Nat)) (ws : List Nat) : Prop where
  ne : ws ≠ []
  lt : ∀ a ∈ ws, a < ps.length
  jn : Joined ps ws
theorem Walk.last {ps : List (Nat × Nat)} {ws : List Nat} (h : Walk ps ws) : ∃ z p, ws[ws.length - 1]? = some z ∧ ps[z]? = some p ∧ p ∈ ps := by
  have h1 : 1 ≤ ws.length := List.length_pos_iff.mpr h.ne
  have hz : ws[ws.length - 1]? = some ws[ws.length - 1] := List.getElem?_eq_getElem (by omega)
  have hl := h.lt _ (List.getElem_mem (l := ws) (n := ws.length - 1) (by omega))
  exact ⟨_, ps[ws[ws.length - 1]], hz, List.getElem?_eq_getElem hl, List.getElem_mem hl⟩
theorem Walk.snoc {ps : List (Nat × Nat)} {ws : List Nat} (h : Walk ps ws) {z i : Nat} {p : Nat × Nat} (hz : ws[ws.length - 1]? = some z) (hp : ps[z]? = some p) (hi : i ∈ nexts ps p.2) : Walk ps (ws ++ [i]) := by
  obtain ⟨q, hq, e⟩ := nexts_spec hi
  refine ⟨by simp, fun a ha => ?_, joined_snoc h.jn hz hp hq e⟩
  rcases List.mem_append.mp ha with ha | ha
  · exact h.lt a ha
  · rw [List.mem_singleton] at ha
    subst ha
    exact (List.getElem?_eq_some_iff.mp hq).1
def lp16 : Sm := .whl (.cmp .Lt (.bi .len false (.cons (.var 3) (.nil))) (.var 2)) bdy16
theorem f16_loop {d n1 : Nat} {ps : List (Nat × Nat)} {many : Nat} {R : Rs} {N : Nat} {ws0 : List Nat} (hN : 0 < N) (hRl : R.length = N + 1) (hp0 : Pot R 0) (hR : R[N]? = some (.lst (tis ws0))) (hl : ps.length ≤ 1000) (hm : many ≤ 1000) (hw : Walk ps ws0) (hw1 : ws0.length = 1) (ho : Outs ps) :
    ∃ s4 ws R', evS (gOf pg (d + 1)) n1 lp16 [some (.root 0), some (.lst (ties ps)), some (ti many), some (.root N), none, none, none] R = .ok (.nx, [some (.root 0), some (.lst (ties ps)), some (ti many), some (.root N), s4, none, none]) R' ∧
      R'.length = N + 1 ∧ Pot R' 0 ∧ R'[N]? = some (.lst (tis ws)) ∧ Walk ps ws ∧ ws.length = max 1 many := by
  have key : (evS (gOf pg (d + 1)) n1 lp16 [some (.root 0), some (.lst (ties ps)), some (ti many), some (.root N), none, none, none] R).wp
      fun r R' => ∃ s4 ws, r = (.nx, [some (.root 0), some (.lst (ties ps)), some (ti many), some (.root N), s4, none, none]) ∧ R'.length = N + 1 ∧ Pot R' 0 ∧ R'[N]? = some (.lst (tis ws)) ∧ Walk ps ws ∧ ws.length = max 1 many := by
    unfold lp16
    rw [evS_whl]
    refine loop_wp (fun m i σ R' => ∃ s4 ws, σ = [some (.root 0), some (.lst (ties ps)), some (ti many), some (.root N), s4, none, none] ∧ R'.length = N + 1 ∧ Pot R' 0 ∧ R'[N]? = some (.lst (tis ws)) ∧ Walk ps ws ∧ ws.length ≤ max 1 many ∧ m = 1001 - ws.length) ?_ W0 (1001 - ws0.length) 0 _ R (by show 1001 - ws0.length < 1000000; omega) ⟨none, ws0, rfl, hRl, hp0, hR, hw, by omega, rfl⟩
    rintro m i σ R1 ⟨s4, ws, rfl, h1, h2, h3, h4, h5, rfl⟩
    have hlen : biV .len false [.root N] R1 = .ok (.int (ws.length : Int)) R1 := by rw [bi_len (len_root h3)]; simp
    have hc : evE (gOf pg (d + 1)) n1 (.cmp .Lt (.bi .len false (.cons (.var 3) (.nil))) (.var 2)) [some (.root 0), some (.lst (ties ps)), some (ti many), some (.root N), s4, none, none] R1 = .ok (.bl (decide ((ws.length : Int) < (many : Int)))) R1 := by
      rw [eE_cmp, eE_bi, es_cons, eE_var]
      show (((Rz.ok (TV.root N) R1).bind fun x R2 => (evs (gOf pg (d + 1)) n1 .nil _ R2).bind fun xs R3 => .ok (x :: xs) R3).bind fun vs R2 => biV .len false vs R2).bind _ = _
      rw [Rz.bind_ok, es_nil, Rz.bind_ok, Rz.bind_ok, hlen, Rz.bind_ok, eE_var]
      rfl
    unfold whlTurn
    rw [hc, Rz.bind_ok]
    by_cases hlt : (ws.length : Int) < (many : Int)
    · rw [decide_eq_true hlt]
      obtain ⟨z, p, hz, hp, hpm⟩ := h4.last
      have hb := body16 (d := d) (n1 := n1) (N := N) (ps := ps) (ws := ws) (R := R1) (many := (many : Int)) (s4 := s4) hN h2 hl (by omega) h3 hz h4.ne hp (ho p hpm)
      refine hb.elim fun x hb => hb.elim fun a hb => hb.elim fun b hb => ?_
      obtain ⟨hi, ha, hb⟩ := hb
      show ((evSs (gOf pg (d + 1)) n1 bdy16 _ R1).bind _).wp _
      rw [hb, Rz.bind_ok, wp_ok]
      have hl0 : 0 < R1.length := by omega
      refine ⟨1001 - (ws ++ [x]).length, ?_, some (.lst (tis (nexts ps p.2))), ws ++ [x], rfl, ?_, ?_, ?_, h4.snoc hz hp hi, ?_, rfl⟩
      · rw [List.length_append, List.length_singleton]; omega
      · rw [List.length_set, List.length_set]; exact h1
      · obtain ⟨a', b', e, ha'⟩ := Pot.set (b := b) hl0 ha
        exact ⟨a', b', by rw [List.getElem?_set_ne (by omega)]; exact e, ha'⟩
      · rw [List.getElem?_set_self (by rw [List.length_set]; omega)]
      · rw [List.length_append, List.length_singleton]; omega
    · rw [decide_eq_false hlt]
      show ∃ _, _
      have := List.length_pos_iff.mpr h4.ne
      exact ⟨s4, ws, rfl, h1, h2, h3, h4, by omega⟩
  generalize hr : evS (gOf pg (d + 1)) n1 lp16 [some (.root 0), some (.lst (ties ps)), some (ti many), some (.root N), none, none, none] R = r at key ⊢
  cases r with
  | ok a R1 =>
    obtain ⟨s4, ws, h1, h2⟩ := key
    subst h1
    exact ⟨s4, ws, R1, rfl, h2⟩
  | exc _ _ _ => exact False.elim key
  | no => exact False.elim key
theorem handOn_tis {N : Nat} {ws : List Nat} {R : Rs} (h : R[N]? = some (.lst (tis ws))) : handOn N (.root N) R = .ok (.root N) (R.take N ++ [.lst (tis ws)]) := by
  have e : subO (rootT R N N deepN) (.lst (tis ws)) = some (.lst (tis ws)) := by
    show (subs (rootT R N N deepN) (tis ws)).map RO.lst = _
    rw [subs_tis] <;> rfl
  unfold handOn
  simp only [h, e]
  simp
theorem Pot.take {R : Rs} {N : Nat} (h : Pot R 0) (hN : 0 < N) : Pot (R.take N) 0 := by
  obtain ⟨a, b, h, ha⟩ := h
  exact ⟨a, b, by rw [List.getElem?_take_of_lt hN]; exact h, ha⟩
/-- the drawn walk -/
theorem f16 {d n0 : Nat} {ps : List (Nat × Nat)} {many : Nat} {R : Rs} (hp0 : Pot R 0) (hps : 0 < ps.length) (hl : ps.length ≤ 1000) (hm : many ≤ 1000) (ho : Outs ps) :
    ∃ ws R', callD pg (d + 2) n0 16 [.root 0, .lst (ties ps), ti many] R = .ok (.root R.length) (R' ++ [.lst (tis ws)]) ∧ R'.length = R.length ∧ Pot R' 0 ∧ Walk ps ws ∧ ws.length = max 1 many := by
  have hN := hp0.len
  have hd := f14 (d := d) (n0 := R.length) (m := (ps.length : Int)) hp0 (by omega) (by omega)
  refine hd.elim fun x hd => hd.elim fun a hd => hd.elim fun b hd => ?_
  obtain ⟨hcall, hx, ha⟩ := hd
  have hg : (gOf pg (d + 1)).call R.length 14 [.root 0, .int (ps.length : Int)] R = .ok (ti x) (R.set 0 (.lst [.int a, .int b])) := hcall
  have h1 : evS (gOf pg (d + 1)) R.length (.asg (.name 3) (.lst true (.cons (.call 14 (.cons (.var 0) (.cons (.bi .len false (.cons (.var 1) (.nil))) (.nil)))) (.nil)))) [some (.root 0), some (.lst (ties ps)), some (ti many), none, none, none, none] R =
      .ok (.nx, [some (.root 0), some (.lst (ties ps)), some (ti many), some (.root R.length), none, none, none]) (R.set 0 (.lst [.int a, .int b]) ++ [.lst [ti x]]) := by
    have e1 : evE (gOf pg (d + 1)) R.length (.call 14 (.cons (.var 0) (.cons (.bi .len false (.cons (.var 1) (.nil))) (.nil)))) [some (.root 0), some (.lst (ties ps)), some (ti many), none, none, none, none] R = .ok (ti x) (R.set 0 (.lst [.int a, .int b])) := by
      simp [hg]
    have hz : ∀ v : TV, decide (([v] : List TV).length ≤ PySem.sizeLine) = true := fun v => decide_eq_true (by show 1 ≤ PySem.sizeLine; decide +kernel)
    rw [eS_asg, eE_lst, es_cons, e1, Rz.bind_ok, es_nil, Rz.bind_ok, Rz.bind_ok, hz, guardR_true, alloc_t, Rz.bind_ok, eT_name, Rz.bind_ok, List.length_set]
    rfl
  have hw : Walk ps [x] := by
    refine ⟨List.cons_ne_nil _ _, fun y hy => ?_, fun j p q hp hq => ?_⟩
    · rw [List.mem_singleton] at hy; subst hy; omega
    · have := (List.getElem?_eq_some_iff.mp hq).1
      simp at this
  have hlp := f16_loop (d := d) (n1 := R.length) (ps := ps) (many := many) (R := R.set 0 (.lst [.int a, .int b]) ++ [.lst [ti x]]) (N := R.length) (ws0 := [x]) hN (by simp) (by
      obtain ⟨a', b', e, ha'⟩ := Pot.set (b := b) hN ha
      exact ⟨a', b', by rw [List.getElem?_append_left (by simpa using hN)]; exact e, ha'⟩) (by rw [List.getElem?_append_right (by simp)]; simp) hl hm hw rfl ho
  refine hlp.elim fun s4 hlp => hlp.elim fun ws hlp => hlp.elim fun R' hlp => ?_
  obtain ⟨e, g1, g2, g3, g4, g5⟩ := hlp
  refine ⟨ws, R'.take R.length, ?_, by rw [List.length_take]; omega, g2.take hN, g4, g5⟩
  have h3 : evE (gOf pg (d + 1)) R.length (.var 3) [some (.root 0), some (.lst (ties ps)), some (ti many), some (.root R.length), s4, none, none] R' = .ok (.root R.length) R' := by rw [eE_var] <;> rfl
  rw [run_eq (F := fn_16) rfl, run_root (.cons (.asg (.name 3) (.lst true (.cons (.call 14 (.cons (.var 0) (.cons (.bi .len false (.cons (.var 1) (.nil))) (.nil)))) (.nil)))) (.cons lp16 (.cons (.ret (.var 3)) (.nil)))) [some (.root 0), some (.lst (ties ps)), some (ti many), none, none, none, none] rfl rfl rfl rfl, seq3 h1 e h3, Rz.bind_ok]
  exact handOn_tis g3
end K63

/-! K63w: a comprehension that makes a new list at each turn. -/
namespace K63
open Pv
/-- n new roots behind m -/
def newR (m n : Nat) : List TV := (List.range n).map fun i => TV.root (m + i)
/-- n empty lists -/
def nils (n : Nat) : Rs := List.replicate n (.lst [])
theorem newR_succ (m n : Nat) : newR m (n + 1) = newR m n ++ [.root (m + n)] := by
  unfold newR
  rw [List.range_succ, List.map_append] <;> rfl
theorem nils_succ (R : Rs) (n : Nat) : R ++ nils (n + 1) = (R ++ nils n) ++ [.lst []] := by
  unfold nils
  rw [List.replicate_succ', List.append_assoc]
theorem comp_roots {turn : Nat → Rs → Rz (Option (Option TV))} {R : Rs} (n : Nat) (hn : n ≤ 100000)
    (step : ∀ i, i < n → turn i (R ++ nils i) = .ok (some (some (.root (R.length + i)))) (R ++ nils (i + 1))) (stop : turn n (R ++ nils n) = .ok none (R ++ nils n)) :
    compN turn W0 0 [] R = .ok (newR R.length n) (R ++ nils n) := by
  have key : ∀ k i, n - i = k → i ≤ n → ∀ m, k < m → compN turn m i (newR R.length i) (R ++ nils i) = .ok (newR R.length n) (R ++ nils n) := by
    intro k
    induction k with
    | zero =>
      intro i hk hi m hm
      have : i = n := by omega
      subst this
      cases m with
      | zero => omega
      | succ m =>
        show (turn i _).bind _ = _
        rw [stop, Rz.bind_ok]
    | succ k ih =>
      intro i hk hi m hm
      cases m with
      | zero => omega
      | succ m =>
        show (turn i _).bind _ = _
        rw [step i (by omega), Rz.bind_ok]
        have hl : (newR R.length i).length = i := by simp [newR]
        have hz : decide ((newR R.length i).length < PySem.sizeLine) = true := decide_eq_true (Nat.lt_of_le_of_lt (Nat.le_of_eq hl) (Nat.lt_of_lt_of_le (show i < 100001 by omega) (by decide)))
        show guardR (decide ((newR R.length i).length < PySem.sizeLine)) (compN turn m (i + 1) (newR R.length i ++ [.root (R.length + i)]) (R ++ nils (i + 1))) = _
        rw [hz, guardR_true, ← newR_succ]
        exact ih (i + 1) (by omega) (by omega) m (by omega)
  have h := key n 0 (by omega) (Nat.zero_le _) W0 (by show n < 1000000; omega)
  have e : R ++ nils 0 = R := by simp [nils]
  rw [e] at h
  exact h
/-- [[] for j in range(n)], kept -/
theorem ev_roots {G : Ga} {n0 n j : Nat} {e : Ex} {σ : Slots} {R : Rs} (hn : n ≤ 100000) (hj : j < σ.length) (he0 : evE G n0 e σ R = .ok (.int (n : Int)) R) :
    evE G n0 (.comp true (.lst true .nil) (.name j) (.rng1 e) (.cst (.bl true)) [j]) σ R = .ok (.root (R.length + n)) (R ++ nils n ++ [.lst (newR R.length n)]) := by
  have hs : ∀ i, i < n → compTurnT G n0 (.lst true .nil) (.name j) (.cst (.bl true)) (wipeT σ [j]) (.rng 0 n) i (R ++ nils i) = .ok (some (some (.root (R.length + i)))) (R ++ nils (i + 1)) := fun i hi => by
    have h : Wk.at (.rng 0 n) i (R ++ nils i) = some (some (ti i)) := by simp [Wk.at, hi]
    rw [turn_at h, nils_succ]
    simp [evB, wipeT, hj, nils, alloc]
  have he : compTurnT G n0 (.lst true .nil) (.name j) (.cst (.bl true)) (wipeT σ [j]) (.rng 0 n) n (R ++ nils n) = .ok none (R ++ nils n) := turn_end (by simp [Wk.at])
  rw [evE_comp, ev_rng hn he0, Rz.bind_ok, comp_roots n hn hs he]
  show Rz.ok (TV.root (R ++ nils n).length) _ = _
  simp [nils]
end K63

/-! K63x: the loop of Web's making. -/
namespace K63
open Pv
/-- the fields of a web under way -/
def fs4 (k P : Nat) (ps : List (Nat × Nat)) : List (PySem.Str × TV) := [("own_places", ti P), ("own_ties", .tup (ties ps)), ("own_from", .root (k + 1 + P)), ("own_to", .root (k + 2 + P + P))]
theorem lk1 (k P : Nat) (ps : List (Nat × Nat)) : (fs4 k P ps).lookup ("own_from" : PySem.Str) = some (TV.root (k + 1 + P)) := rfl
theorem lk2 (k P : Nat) (ps : List (Nat × Nat)) : (fs4 k P ps).lookup ("own_to" : PySem.Str) = some (TV.root (k + 2 + P + P)) := rfl
/-- a web under way: k its root, P places, n ties laid -/
structure Wb (R : Rs) (k P n : Nat) (ps : List (Nat × Nat)) : Prop where
  len : R.length = k + 3 + P + P
  own : R[k]? = some (.ins 0 (fs4 k P ps))
  fr : R[k + 1 + P]? = some (.lst (newR (k + 1) P))
  to : R[k + 2 + P + P]? = some (.lst (newR (k + 2 + P) P))
  l1 : ∀ i, i < P → ∃ xs, R[k + 1 + i]? = some (.lst (tis xs)) ∧ xs.length ≤ n
  l2 : ∀ i, i < P → ∃ xs, R[k + 2 + P + i]? = some (.lst (tis xs)) ∧ xs.length ≤ n
theorem newR_at {m n i : Nat} (h : i < n) : L2.atI (newR m n) (i : Int) = some (.root (m + i)) := ix_of (by simp [newR, h])
theorem Wb.put1 {R : Rs} {k P n i : Nat} {ps : List (Nat × Nat)} (w : Wb R k P n ps) (hi : i < P) {ys : List Nat} (hy : ys.length ≤ n + 1) : Wb (R.set (k + 1 + i) (.lst (tis ys))) k P (n + 1) ps where
  len := by rw [List.length_set]; exact w.len
  own := by rw [List.getElem?_set_ne (by omega)]; exact w.own
  fr := by rw [List.getElem?_set_ne (by omega)]; exact w.fr
  to := by rw [List.getElem?_set_ne (by omega)]; exact w.to
  l1 := fun j hj => by
    have hl := w.len
    by_cases h : j = i
    · subst h
      exact ⟨ys, List.getElem?_set_self (by omega), hy⟩
    · obtain ⟨xs, h1, h2⟩ := w.l1 j hj
      exact ⟨xs, by rw [List.getElem?_set_ne (by omega)]; exact h1, by omega⟩
  l2 := fun j hj => by
    obtain ⟨xs, h1, h2⟩ := w.l2 j hj
    exact ⟨xs, by rw [List.getElem?_set_ne (by omega)]; exact h1, by omega⟩
theorem Wb.put2 {R : Rs} {k P n i : Nat} {ps : List (Nat × Nat)} (w : Wb R k P n ps) (hi : i < P) {ys : List Nat} (hy : ys.length ≤ n) : Wb (R.set (k + 2 + P + i) (.lst (tis ys))) k P n ps where
  len := by rw [List.length_set]; exact w.len
  own := by rw [List.getElem?_set_ne (by omega)]; exact w.own
  fr := by rw [List.getElem?_set_ne (by omega)]; exact w.fr
  to := by rw [List.getElem?_set_ne (by omega)]; exact w.to
  l1 := fun j hj => by
    obtain ⟨xs, h1, h2⟩ := w.l1 j hj
    exact ⟨xs, by rw [List.getElem?_set_ne (by omega)]; exact h1, by omega⟩
  l2 := fun j hj => by
    have hl := w.len
    by_cases h : j = i
    · subst h
      exact ⟨ys, List.getElem?_set_self (by omega), hy⟩
    · obtain ⟨xs, h1, h2⟩ := w.l2 j hj
      exact ⟨xs, by rw [List.getElem?_set_ne (by omega)]; exact h1, by omega⟩
/-- self.f[j].append(v), f a list of roots -/
theorem app_fld {G : Ga} {n0 j v k a m P z : Nat} {f : PySem.Str} {σ : Slots} {R : Rs} {fs : List (PySem.Str × TV)} {xs : List Nat} {i : Nat} (hG : G.fldk 0 f = .fld) (h0 : σ[0]? = some (some (.root k))) (hj : σ[j]? = some (some (ti a))) (hv : σ[v]? = some (some (ti i)))
    (hk : R[k]? = some (.ins 0 fs)) (hf : fs.lookup f = some (.root z)) (hz : R[z]? = some (.lst (newR m P))) (ha : a < P) (hx : R[m + a]? = some (.lst (tis xs))) (hl : xs.length ≤ 1000) :
    evS G n0 (.expr (.mth .append false (.sub (.fld (.var 0) f) (.var j)) (.cons (.var v) .nil))) σ R = .ok (.nx, σ) (R.set (m + a) (.lst (tis (xs ++ [i])))) := by
  have e1 : evE G n0 (.fld (.var 0) f) σ R = .ok (.root z) R := by
    rw [eE_fld, eE_var, h0]
    show (match asI R (.root k) with
      | some (c, fs) => match G.fldk c f with
        | .prop g => G.call n0 g [.root k] R
        | .fld => ofO (fs.lookup f) R
        | .no => .no
      | none => .no) = _
    have : asI R (.root k) = some (0, fs) := by
      unfold asI
      simp only [hk]
    rw [this]
    show (match G.fldk 0 f with
        | .prop g => G.call n0 g [.root k] R
        | .fld => ofO (fs.lookup f) R
        | .no => .no) = _
    rw [hG, hf] <;> rfl
  have e2 : evE G n0 (.sub (.fld (.var 0) f) (.var j)) σ R = .ok (.root (m + a)) R := by
    rw [eE_sub, e1, Rz.bind_ok, eE_var, hj]
    show ofO (ixV R (.root z) (.int (a : Int))) R = _
    rw [ixV_root _ hz, newR_at ha] <;> rfl
  have hok : mtOk .append (.root (m + a)) R = true := by
    show (asLm R (.root (m + a))).isSome = true
    rw [asLm_root hx] <;> rfl
  have e3 : evE G n0 (.var v) σ R = .ok (ti i) R := by rw [eE_var, hv] <;> rfl
  rw [eS_expr, eE_mth, e2, Rz.bind_ok, hok, guardR_true, es_cons, e3, Rz.bind_ok, es_nil, Rz.bind_ok, Rz.bind_ok, app_root hx (by simpa using (by omega : xs.length ≤ 100000)), Rz.bind_ok]
  simp
abbrev bdy4 : Sms := .cons (.expr (.mth .append false (.sub (.fld (.var 0) "own_from") (.var 4)) (.cons (.var 3) (.nil)))) (.cons (.expr (.mth .append false (.sub (.fld (.var 0) "own_to") (.var 5)) (.cons (.var 3) (.nil)))) (.nil))
theorem body4 {d n0 k P n a b i : Nat} {ps : List (Nat × Nat)} {R : Rs} {x1 x2 x6 x7 : Option TV} (w : Wb R k P n ps) (hn : n ≤ 900) (ha : a < P) (hb : b < P) :
    ∃ R', evSs (gOf pg d) n0 bdy4 [some (.root k), x1, x2, some (ti i), some (ti a), some (ti b), x6, x7] R = .ok (.nx, [some (.root k), x1, x2, some (ti i), some (ti a), some (ti b), x6, x7]) R' ∧ Wb R' k P (n + 1) ps ∧ R'.take k = R.take k := by
  obtain ⟨xs, h1, h2⟩ := w.l1 a ha
  have e1 := app_fld (G := gOf pg d) (n0 := n0) (j := 4) (v := 3) (f := "own_from") (σ := [some (.root k), x1, x2, some (ti i), some (ti a), some (ti b), x6, x7]) (i := i) rfl rfl rfl rfl w.own (z := k + 1 + P) (lk1 k P ps) w.fr ha h1 (by omega)
  have w1 := w.put1 ha (ys := xs ++ [i]) (by simpa using h2)
  obtain ⟨ys, h30, h4⟩ := w.l2 b hb
  have h3 : (R.set (k + 1 + a) (.lst (tis (xs ++ [i]))))[k + 2 + P + b]? = some (.lst (tis ys)) := by rw [List.getElem?_set_ne (by omega)]; exact h30
  have e2 := app_fld (G := gOf pg d) (n0 := n0) (j := 5) (v := 3) (f := "own_to") (σ := [some (.root k), x1, x2, some (ti i), some (ti a), some (ti b), x6, x7]) (i := i) rfl rfl rfl rfl w1.own (z := k + 2 + P + P) (lk2 k P ps) w1.to hb h3 (by omega)
  refine ⟨_, ?_, w1.put2 hb (ys := ys ++ [i]) (by simpa using h4), ?_⟩
  · rw [eSs_cons, e1, Rz.bind_ok]
    show evSs (gOf pg d) n0 (.cons (.expr _) .nil) _ _ = _
    rw [eSs_cons, e2, Rz.bind_ok]
    show evSs (gOf pg d) n0 .nil _ _ = _
    rw [eSs_nil]
  · rw [List.take_set_of_le (by omega), List.take_set_of_le (by omega)]
end K63

/-! K63y: the loop of Web's making, walked. -/
namespace K63
open Pv
def tg4 : Tg := .tup (.cons (.name 3) (.cons (.tup (.cons (.name 4) (.cons (.name 5) (.nil)))) (.nil)))
def lp4 : Sm := .for (.tup (.cons (.name 3) (.cons (.tup (.cons (.name 4) (.cons (.name 5) (.nil)))) (.nil)))) (.enum (.fld (.var 0) "own_ties")) bdy4
theorem tgt4 {G : Ga} {n0 i a b : Nat} {x0 x1 x2 x3 x4 x5 x6 x7 : Option TV} {R : Rs} : evT G n0 (.tup (.cons (.name 3) (.cons (.tup (.cons (.name 4) (.cons (.name 5) (.nil)))) (.nil)))) (.tup [ti i, tie (a, b)]) [x0, x1, x2, x3, x4, x5, x6, x7] R = .ok [x0, x1, x2, some (ti i), some (ti a), some (ti b), x6, x7] R := by
  simp [Tgs.len]
theorem f4_loop {d n1 k P : Nat} {ps : List (Nat × Nat)} {R : Rs} {x1 x2 x6 x7 : Option TV} (w : Wb R k P 0 ps) (hl : ps.length ≤ 900) (hps : ∀ p ∈ ps, p.1 < P ∧ p.2 < P) :
    ∃ σ' R', evS (gOf pg d) n1 lp4 [some (.root k), x1, x2, none, none, none, x6, x7] R = .ok (.nx, σ') R' ∧ Wb R' k P ps.length ps ∧ R'.take k = R.take k := by
  have key : (evS (gOf pg d) n1 lp4 [some (.root k), x1, x2, none, none, none, x6, x7] R).wp fun r R' => (∃ σ', r = (.nx, σ')) ∧ Wb R' k P ps.length ps ∧ R'.take k = R.take k := by
    have hi : evI (gOf pg d) n1 (.enum (.fld (.var 0) "own_ties")) [some (.root k), x1, x2, none, none, none, x6, x7] R = .ok (.enumT (ties ps)) R := by
      have e1 : evE (gOf pg d) n1 (.fld (.var 0) "own_ties") [some (.root k), x1, x2, none, none, none, x6, x7] R = .ok (.tup (ties ps)) R := by
        have : asI R (.root k) = some (0, fs4 k P ps) := by
          unfold asI
          simp only [w.own]
        rw [eE_fld, eE_var]
        show (match asI R (.root k) with
          | some (c, fs) => match (gOf pg d).fldk c "own_ties" with
            | .prop g => (gOf pg d).call n1 g [.root k] R
            | .fld => ofO (fs.lookup ("own_ties" : PySem.Str)) R
            | .no => .no
          | none => .no) = _
        rw [this] <;> rfl
      rw [eI_enum, e1, Rz.bind_ok] <;> rfl
    unfold lp4
    rw [evS_for, hi, Rz.bind_ok]
    refine for_wp ps.length (by show ps.length < 1000000; omega) (fun i σ R' => (∃ x3 x4 x5, σ = [some (.root k), x1, x2, x3, x4, x5, x6, x7]) ∧ Wb R' k P i ps ∧ R'.take k = R.take k) ⟨⟨none, none, none, rfl⟩, w, rfl⟩ ?_ ?_
    · rintro i σ R1 hi ⟨⟨x3, x4, x5, rfl⟩, w1, ht⟩
      have hp := hps ps[i] (List.getElem_mem hi)
      generalize hq : ps[i] = q at hp
      obtain ⟨a, b⟩ := q
      have hat : Wk.at (.enumT (ties ps)) i R1 = some (some (.tup [ti i, tie (a, b)])) := by
        rw [at_enumT, List.getElem?_map, List.getElem?_eq_getElem hi, hq] <;> rfl
      have hb := body4 (d := d) (n0 := n1) (i := i) (x1 := x1) (x2 := x2) (x6 := x6) (x7 := x7) w1 (by omega) hp.1 hp.2
      refine hb.elim fun R2 hb => ?_
      obtain ⟨e, w2, ht2⟩ := hb
      unfold forTurn
      rw [hat]
      show ((evT (gOf pg d) n1 _ (.tup [ti i, tie (a, b)]) _ R1).bind _).wp _
      rw [tgt4, Rz.bind_ok, e, Rz.bind_ok, wp_ok]
      exact ⟨⟨_, _, _, rfl⟩, w2, ht2.trans ht⟩
    · rintro σ R1 ⟨⟨x3, x4, x5, rfl⟩, w1, ht⟩
      unfold forTurn
      have hat : Wk.at (.enumT (ties ps)) ps.length R1 = some none := by simp
      rw [hat]
      exact ⟨rfl, ⟨_, rfl⟩, w1, ht⟩
  generalize evS (gOf pg d) n1 lp4 [some (.root k), x1, x2, none, none, none, x6, x7] R = r at key ⊢
  cases r with
  | ok a R1 =>
    obtain ⟨⟨σ', h1⟩, h2, h3⟩ := key
    subst h1
    exact ⟨σ', R1, rfl, h2, h3⟩
  | exc _ _ _ => exact False.elim key
  | no => exact False.elim key
end K63

/-! K63z: a web made, as a tree. -/
namespace K63
open Pv
theorem subs_all {f : Nat → Option TV} : ∀ {vs : List TV}, (∀ v ∈ vs, ∃ u, sub f v = some u ∧ ∀ g, sub g u = some u) → ∃ us, subs f vs = some us ∧ ∀ g, subs g us = some us
  | [], _ => ⟨[], rfl, fun _ => rfl⟩
  | v :: vs, h => by
    obtain ⟨u, h1, h2⟩ := h v List.mem_cons_self
    obtain ⟨us, h3, h4⟩ := subs_all (vs := vs) fun w hw => h w (List.mem_cons_of_mem _ hw)
    refine ⟨u :: us, ?_, fun g => ?_⟩
    · show (match sub f v, subs f vs with
        | some y, some ys => some (y :: ys)
        | _, _ => none) = _
      rw [h1, h3]
    · show (match sub g u, subs g us with
        | some y, some ys => some (y :: ys)
        | _, _ => none) = _
      rw [h2, h4]
theorem subs_ties (f : Nat → Option TV) : ∀ ps : List (Nat × Nat), subs f (ties ps) = some (ties ps)
  | [] => rfl
  | p :: ps => by
    show (match sub f (tie p), subs f (ties ps) with
        | some y, some ys => some (y :: ys)
        | _, _ => none) = _
    rw [subs_ties f ps] <;> rfl
theorem sub_tup (f : Nat → Option TV) (ps : List (Nat × Nat)) : sub f (.tup (ties ps)) = some (.tup (ties ps)) := by
  show (subs f (ties ps)).map TV.tup = _
  rw [subs_ties] <;> rfl
theorem sub_lst {f : Nat → Option TV} {us : List TV} (h : subs f us = some us) : sub f (.lst us) = some (.lst us) := by
  show (subs f us).map TV.lst = _
  rw [h] <;> rfl
theorem rootT_at {R : Rs} {n0 bad n k : Nat} {o : RO} (h1 : n0 ≤ k) (h2 : k ≠ bad) (h : R[k]? = some o) : rootT R n0 bad (n + 1) k = (subO (rootT R n0 bad n) o).map treeOf := by
  show (if k < n0 then some (.root k) else if k = bad then none else match R[k]? with
    | some o => (subO (rootT R n0 bad n) o).map treeOf
    | none => none) = _
  rw [if_neg (by omega), if_neg h2, h]
/-- a list of roots that are lists of numbers, as a tree -/
theorem roots_tree {R : Rs} {n0 bad n z m P : Nat} (hz : R[z]? = some (.lst (newR m P))) (h1 : n0 ≤ m) (h2 : m + P ≤ bad) (h3 : n0 ≤ z) (h4 : z ≠ bad) (hx : ∀ i, i < P → ∃ xs : List Nat, R[m + i]? = some (.lst (tis xs))) :
    ∃ us, rootT R n0 bad (n + 2) z = some (.lst us) ∧ ∀ g, subs g us = some us := by
  have h := subs_all (f := rootT R n0 bad (n + 1)) (vs := newR m P) fun v hv => by
    unfold newR at hv
    rw [List.mem_map] at hv
    obtain ⟨i, hi, rfl⟩ := hv
    have hi := List.mem_range.mp hi
    obtain ⟨xs, hxs⟩ := hx i hi
    refine ⟨.lst (tis xs), ?_, fun g => sub_lst (subs_tis g xs)⟩
    show rootT R n0 bad (n + 1) (m + i) = _
    rw [rootT_at (by omega) (by omega) hxs]
    show ((subs (rootT R n0 bad n) (tis xs)).map RO.lst).map treeOf = _
    rw [subs_tis] <;> rfl
  obtain ⟨us, h5, h6⟩ := h
  refine ⟨us, ?_, h6⟩
  rw [rootT_at h3 h4 hz]
  show ((subs (rootT R n0 bad (n + 1)) (newR m P)).map RO.lst).map treeOf = _
  rw [h5] <;> rfl
theorem subF_cons {f : Nat → Option TV} {k : PySem.Str} {x y : TV} {xs ys : List (PySem.Str × TV)} (h : sub f x = some y) (h2 : subF f xs = some ys) : subF f ((k, x) :: xs) = some ((k, y) :: ys) := by
  show (match sub f x, subF f xs with
    | some y, some ys => some ((k, y) :: ys)
    | _, _ => none) = _
  rw [h, h2]
/-- the fields of a web, settled -/
def fz (P : Nat) (ps : List (Nat × Nat)) (us ws : List TV) : List (PySem.Str × TV) := [("own_places", ti P), ("own_ties", .tup (ties ps)), ("own_from", .lst us), ("own_to", .lst ws)]
theorem subF_nil (f : Nat → Option TV) : subF f [] = some [] := rfl
theorem sub_int (f : Nat → Option TV) (i : Int) : sub f (.int i) = some (.int i) := rfl
theorem sub_root {f : Nat → Option TV} {k : Nat} {v : TV} (h : f k = some v) : sub f (.root k) = some v := h
/-- a web, settled -/
theorem Wb.settle {R : Rs} {k P n : Nat} {ps : List (Nat × Nat)} (w : Wb R k P n ps) :
    ∃ fs, Pv.settle k (.root k) R = .ok (.ins 0 fs) (R.take k) ∧ fs.lookup ("own_ties" : PySem.Str) = some (.tup (ties ps)) ∧ ∀ f, sub f (.ins 0 fs) = some (.ins 0 fs) := by
  have hl := w.len
  obtain ⟨us, h1, h2⟩ := roots_tree (n0 := k) (bad := R.length) (n := 1) w.fr (by omega) (by omega) (by omega) (by omega) fun i hi => (w.l1 i hi).elim fun xs h => ⟨xs, h.1⟩
  obtain ⟨ws, h3, h4⟩ := roots_tree (n0 := k) (bad := R.length) (n := 1) w.to (by omega) (by omega) (by omega) (by omega) fun i hi => (w.l2 i hi).elim fun xs h => ⟨xs, h.1⟩
  refine ⟨fz P ps us ws, ?_, rfl, fun f => ?_⟩
  · show ofO (rootT R k R.length 4 k) (R.take k) = _
    rw [rootT_at (by omega) (by omega) w.own]
    have e : subF (rootT R k R.length 3) (fs4 k P ps) = some (fz P ps us ws) :=
      subF_cons (sub_int _ _) (subF_cons (sub_tup _ ps) (subF_cons (sub_root h1) (subF_cons (sub_root h3) (subF_nil _))))
    show ofO (((subF (rootT R k R.length 3) (fs4 k P ps)).map (RO.ins 0)).map treeOf) _ = _
    rw [e] <;> rfl
  · have e : subF f (fz P ps us ws) = some (fz P ps us ws) :=
      subF_cons (sub_int _ _) (subF_cons (sub_tup _ ps) (subF_cons (sub_lst (h2 f)) (subF_cons (sub_lst (h4 f)) (subF_nil _))))
    show (subF f (fz P ps us ws)).map (TV.ins 0) = _
    rw [e] <;> rfl
end K63

/-! K63zz: Web's making. -/
namespace K63
open Pv
theorem asg_fld {G : Ga} {n0 k : Nat} {f : PySem.Str} {e : Ex} {σ : Slots} {R R1 : Rs} {fs : List (PySem.Str × TV)} {v : TV} (hG : G.fldk 0 f = .fld) (h0 : σ[0]? = some (some (.root k))) (hn : n0 ≤ k) (he : evE G n0 e σ R = .ok v R1) (hk : R1[k]? = some (.ins 0 fs)) (hl : fs.length < 1000) :
    evS G n0 (.asg (.fld (.var 0) f) e) σ R = .ok (.nx, σ) (R1.set k (.ins 0 (putFT f v fs))) := by
  have e1 : putFld G n0 (.root k) f v R1 = some (R1.set k (.ins 0 (putFT f v fs))) := by
    unfold putFld
    simp only [hk, hG]
    rw [decide_eq_true hl]
    show setR n0 k (.ins 0 (putFT f v fs)) [v] R1 = _
    unfold setR
    have : [v].all (mayPut n0 k) = true := by simp [mayPut, hn]
    rw [this] <;> rfl
  rw [eS_asg, he, Rz.bind_ok, eT_fld, eE_var, h0]
  show (match putFld G n0 (.root k) f v R1 with
    | some R2 => Rz.ok σ R2
    | none => .no).bind _ = _
  rw [e1] <;> rfl
theorem run_keep {G : Ga} {F : Fn} {n0 : Nat} {vs : List TV} {R : Rs} (b : Sms) (σ0 : Slots) (hb : F.body = b) (hk : F.endk = .keep) (hn : vs.length = F.np) (hσ : vs.map some ++ List.replicate (F.slots - vs.length) none = σ0) :
    runFn G F n0 vs R = (evSs G n0 b σ0 R).bind fun r R1 => match retOf r with
      | some v => .ok v R1
      | none => .no := by
  subst hb hσ
  unfold runFn
  rw [hk, decide_eq_true hn, guardR_true]
  rfl
theorem if_skip {G : Ga} {n0 : Nat} {c : Ex} {b : Sms} {σ : Slots} {R : Rs} (h : evE G n0 c σ R = .ok (.bl false) R) : evS G n0 (.ifs c b .nil) σ R = .ok (.nx, σ) R := by
  rw [eS_ifs, h, Rz.bind_ok]
  show evSs G n0 .nil σ R = _
  rw [eSs_nil]
theorem nx_cons {G : Ga} {n0 : Nat} {s : Sm} {ss : Sms} {σ σ1 : Slots} {R R1 : Rs} (h : evS G n0 s σ R = .ok (.nx, σ1) R1) : evSs G n0 (.cons s ss) σ R = evSs G n0 ss σ1 R1 := by
  rw [eSs_cons, h, Rz.bind_ok]
abbrev σ4 (k P : Nat) (ps : List (Nat × Nat)) : Slots := [some (.root k), some (ti P), some (.lst (ties ps)), none, none, none, none, none]
theorem c4a {d n0 k P : Nat} {ps : List (Nat × Nat)} {R : Rs} (h1 : 1 ≤ P) (h2 : P ≤ 60) : evE (gOf pg (d + 3)) n0 (.or (.not (.call 1 (.cons (.var 1) (.nil)))) (.not (.chn .LtE .LtE (.cst (.int 1)) (.var 1) (.cst (.int 60))))) (σ4 k P ps) R = .ok (.bl false) R := by
  have hg : (gOf pg (d + 3)).call n0 1 [ti P] R = .ok (.bl true) R := f1 (d + 1) n0 P (by omega) R
  have e1 : decide ((1 : Int) ≤ (P : Int)) = true := decide_eq_true (by omega)
  have e2 : decide ((P : Int) ≤ (60 : Int)) = true := decide_eq_true (by omega)
  have h1' : (1 : Int) ≤ (P : Int) := by omega
  have h2' : (P : Int) ≤ 60 := by omega
  simp [hg, h1', h2']
theorem c4b {d n0 k P : Nat} {ps : List (Nat × Nat)} {R : Rs} (hl : ps.length ≤ 80) (hps : ∀ p ∈ ps, p.1 < P ∧ p.2 < P) : evE (gOf pg (d + 3)) n0 (.or (.not (.call 2 (.cons (.var 2) (.nil)))) (.or (.cmp .Gt (.bi .len false (.cons (.var 2) (.nil))) (.cst (.int 80))) (.not (.bi .all false (.cons (.comp false (.call 3 (.cons (.var 1) (.cons (.var 6) (.nil)))) (.name 6) (.val (.var 2)) (.cst (.bl true)) [6]) (.nil)))))) (σ4 k P ps) R = .ok (.bl false) R := by
  have hg : (gOf pg (d + 3)).call n0 2 [.lst (ties ps)] R = .ok (.bl true) R := f2 (d + 2) n0 (.lst (ties ps)) R (Or.inl rfl)
  have hc : evE (gOf pg (d + 3)) n0 (.comp false (.call 3 (.cons (.var 1) (.cons (.var 6) (.nil)))) (.name 6) (.val (.var 2)) (.cst (.bl true)) [6]) (σ4 k P ps) R = .ok (.lst ((List.range ps.length).map fun _ => TV.bl true)) R := by
    refine (ev_map (w := .lst (.lst (ties ps))) (R1 := R) ?_ ps.length (fun _ => .bl true) (by omega) (fun i hi => ?_) ?_).trans rfl
    · rw [eI_val, eE_var] <;> rfl
    · have hp := hps ps[i] (List.getElem_mem hi)
      generalize hq : ps[i] = q at hp
      obtain ⟨a, b⟩ := q
      have hat : Wk.at (.lst (.lst (ties ps))) i R = some (some (tie (a, b))) := by
        rw [at_lst, List.getElem?_map, List.getElem?_eq_getElem hi, hq] <;> rfl
      have hg3 : ∀ R, (gOf pg (d + 3)).call n0 3 [ti P, tie (a, b)] R = .ok (.bl true) R := fun R => f3 d n0 P a b hp.1 hp.2 R
      rw [turn_at hat]
      simp [evB, wipeT, hg3]
    · exact turn_end (by simp)
  have hl' : ¬ ((80 : Int) < (ps.length : Int)) := by omega
  simp [hg, hc, allT, hl']
end K63

/-! K64a: Web(places, ties). -/
namespace K63
open Pv
/-- the roots once both tables are laid -/
def web4 (R : Rs) (P : Nat) (ps : List (Nat × Nat)) : Rs := R ++ (.ins 0 (fs4 R.length P ps) :: (nils P ++ (.lst (newR (R.length + 1) P) :: (nils P ++ [.lst (newR (R.length + 2 + P) P)]))))
theorem nils_len (n : Nat) : (nils n).length = n := by simp [nils]
theorem nils_at {n i : Nat} (h : i < n) : (nils n)[i]? = some (.lst (tis [])) := by simp [nils, h]
theorem web4_ok (R : Rs) (P : Nat) (ps : List (Nat × Nat)) : Wb (web4 R P ps) R.length P 0 ps := by
  have hn := nils_len P
  refine ⟨?_, ?_, ?_, ?_, fun i hi => ⟨[], ?_, Nat.le_refl _⟩, fun i hi => ⟨[], ?_, Nat.le_refl _⟩⟩ <;> unfold web4
  · simp [hn]; omega
  · rw [List.getElem?_append_right (by omega), Nat.sub_self] <;> rfl
  · rw [List.getElem?_append_right (by omega), show R.length + 1 + P - R.length = P + 1 by omega, List.getElem?_cons_succ, List.getElem?_append_right (by omega), hn, Nat.sub_self] <;> rfl
  · rw [List.getElem?_append_right (by omega), show R.length + 2 + P + P - R.length = P + 1 + P + 1 by omega, List.getElem?_cons_succ, List.getElem?_append_right (by omega), hn, show P + 1 + P - P = P + 1 by omega, List.getElem?_cons_succ, List.getElem?_append_right (by omega), hn, Nat.sub_self] <;> rfl
  · rw [List.getElem?_append_right (by omega), show R.length + 1 + i - R.length = i + 1 by omega, List.getElem?_cons_succ, List.getElem?_append_left (by omega)]
    exact nils_at hi
  · rw [List.getElem?_append_right (by omega), show R.length + 2 + P + i - R.length = P + 1 + i + 1 by omega, List.getElem?_cons_succ, List.getElem?_append_right (by omega), hn, show P + 1 + i - P = i + 1 by omega, List.getElem?_cons_succ, List.getElem?_append_left (by omega)]
    exact nils_at hi
theorem set_mid (R S : Rs) (x y : RO) : (R ++ (x :: S)).set R.length y = R ++ (y :: S) := by
  rw [List.set_append_right _ _ (Nat.le_refl _), Nat.sub_self] <;> rfl
theorem mid_at (R S : Rs) (x : RO) : (R ++ (x :: S))[R.length]? = some x := by
  rw [List.getElem?_append_right (Nat.le_refl _), Nat.sub_self] <;> rfl
/-- Web.__init__ -/
theorem f4 {d P : Nat} {ps : List (Nat × Nat)} {R : Rs} (h1 : 1 ≤ P) (h2 : P ≤ 60) (hl : ps.length ≤ 80) (hps : ∀ p ∈ ps, p.1 < P ∧ p.2 < P) :
    ∃ R', callD pg (d + 4) R.length 4 [.root R.length, ti P, .lst (ties ps)] (R ++ [.ins 0 []]) = .ok .non R' ∧ Wb R' R.length P ps.length ps ∧ R'.take R.length = R := by
  have s1 : evS (gOf pg (d + 3)) R.length (.asg (.fld (.var 0) "own_places") (.var 1)) (σ4 R.length P ps) (R ++ [.ins 0 []]) = .ok (.nx, σ4 R.length P ps) (R ++ [.ins 0 [("own_places", ti P)]]) := by
    rw [asg_fld (G := gOf pg (d + 3)) (k := R.length) (R1 := R ++ [.ins 0 []]) (fs := []) (v := ti P) rfl rfl (Nat.le_refl _) (by rw [eE_var] <;> rfl) (mid_at R [] _) (by simp), set_mid R []] <;> rfl
  have s2 : evS (gOf pg (d + 3)) R.length (.asg (.fld (.var 0) "own_ties") (.bi .tuple false (.cons (.var 2) (.nil)))) (σ4 R.length P ps) (R ++ [.ins 0 [("own_places", ti P)]]) = .ok (.nx, σ4 R.length P ps) (R ++ [.ins 0 [("own_places", ti P), ("own_ties", .tup (ties ps))]]) := by
    rw [asg_fld (G := gOf pg (d + 3)) (k := R.length) (R1 := R ++ [.ins 0 [("own_places", ti P)]]) (fs := [("own_places", ti P)]) (v := .tup (ties ps)) rfl rfl (Nat.le_refl _) (by simp) (mid_at R [] _) (by simp), set_mid R []] <;> rfl
  have e3 := ev_roots (G := gOf pg (d + 3)) (n0 := R.length) (n := P) (j := 7) (e := .var 1) (σ := σ4 R.length P ps) (R := R ++ [.ins 0 [("own_places", ti P), ("own_ties", .tup (ties ps))]]) (by omega) (by simp) (by rw [eE_var] <;> rfl)
  have l3 : (R ++ [RO.ins 0 [("own_places", ti P), ("own_ties", .tup (ties ps))]]).length = R.length + 1 := by simp
  rw [l3, show R ++ [RO.ins 0 [("own_places", ti P), ("own_ties", .tup (ties ps))]] ++ nils P ++ [.lst (newR (R.length + 1) P)] = R ++ (RO.ins 0 [("own_places", ti P), ("own_ties", .tup (ties ps))] :: (nils P ++ [.lst (newR (R.length + 1) P)])) by simp] at e3
  have s3 := asg_fld (G := gOf pg (d + 3)) (k := R.length) (f := "own_from") rfl rfl (Nat.le_refl _) e3 (mid_at R _ _) (by simp)
  rw [set_mid] at s3
  replace s3 : evS (gOf pg (d + 3)) R.length (.asg (.fld (.var 0) "own_from") (.comp true (.lst true (.nil)) (.name 7) (.rng1 (.var 1)) (.cst (.bl true)) [7])) (σ4 R.length P ps) (R ++ [.ins 0 [("own_places", ti P), ("own_ties", .tup (ties ps))]]) = .ok (.nx, σ4 R.length P ps) (R ++ (RO.ins 0 [("own_places", ti P), ("own_ties", .tup (ties ps)), ("own_from", .root (R.length + 1 + P))] :: (nils P ++ [.lst (newR (R.length + 1) P)]))) := s3
  have e4 := ev_roots (G := gOf pg (d + 3)) (n0 := R.length) (n := P) (j := 7) (e := .var 1) (σ := σ4 R.length P ps) (R := R ++ (RO.ins 0 [("own_places", ti P), ("own_ties", .tup (ties ps)), ("own_from", .root (R.length + 1 + P))] :: (nils P ++ [.lst (newR (R.length + 1) P)]))) (by omega) (by simp) (by rw [eE_var] <;> rfl)
  have l4 : (R ++ (RO.ins 0 [("own_places", ti P), ("own_ties", .tup (ties ps)), ("own_from", .root (R.length + 1 + P))] :: (nils P ++ [.lst (newR (R.length + 1) P)]))).length = R.length + 2 + P := by simp [nils_len]; omega
  rw [l4, show R ++ (RO.ins 0 [("own_places", ti P), ("own_ties", .tup (ties ps)), ("own_from", .root (R.length + 1 + P))] :: (nils P ++ [.lst (newR (R.length + 1) P)])) ++ nils P ++ [.lst (newR (R.length + 2 + P) P)] = R ++ (RO.ins 0 [("own_places", ti P), ("own_ties", .tup (ties ps)), ("own_from", .root (R.length + 1 + P))] :: (nils P ++ (.lst (newR (R.length + 1) P) :: (nils P ++ [.lst (newR (R.length + 2 + P) P)])))) by simp] at e4
  have s4 := asg_fld (G := gOf pg (d + 3)) (k := R.length) (f := "own_to") rfl rfl (Nat.le_refl _) e4 (mid_at R _ _) (by simp)
  rw [set_mid] at s4
  replace s4 : evS (gOf pg (d + 3)) R.length (.asg (.fld (.var 0) "own_to") (.comp true (.lst true (.nil)) (.name 7) (.rng1 (.var 1)) (.cst (.bl true)) [7])) (σ4 R.length P ps) (R ++ (RO.ins 0 [("own_places", ti P), ("own_ties", .tup (ties ps)), ("own_from", .root (R.length + 1 + P))] :: (nils P ++ [.lst (newR (R.length + 1) P)]))) = .ok (.nx, σ4 R.length P ps) (web4 R P ps) := s4
  have lp := f4_loop (d := d + 3) (n1 := R.length) (x1 := some (ti P)) (x2 := some (.lst (ties ps))) (x6 := none) (x7 := none) (web4_ok R P ps) (by omega) hps
  refine lp.elim fun σ' lp => lp.elim fun R' lp => ?_
  obtain ⟨s5, w, ht⟩ := lp
  refine ⟨R', ?_, w, by rw [ht]; unfold web4; simp⟩
  rw [run_eq (F := fn_4) rfl, run_keep bd_4 (σ4 R.length P ps) rfl rfl rfl rfl]
  unfold bd_4
  rw [nx_cons (if_skip (c4a h1 h2)), nx_cons (if_skip (c4b hl hps)), nx_cons s1, nx_cons s2, nx_cons s3, nx_cons s4]
  show ((evSs (gOf pg (d + 3)) R.length (.cons lp4 .nil) _ _).bind _) = _
  rw [nx_cons s5, eSs_nil] <;> rfl
end K63

/-! K64b: the call Web(places, ties). -/
namespace K63
open Pv
theorem make4 {d n0 P : Nat} {ps : List (Nat × Nat)} {R : Rs} (h1 : 1 ≤ P) (h2 : P ≤ 60) (hl : ps.length ≤ 80) (hps : ∀ p ∈ ps, p.1 < P ∧ p.2 < P) :
    ∃ fs, makeV (gOf pg (d + 4)) n0 0 [ti P, .lst (ties ps)] R = .ok (.ins 0 fs) R ∧ fs.lookup ("own_ties" : PySem.Str) = some (.tup (ties ps)) ∧ ∀ f, sub f (.ins 0 fs) = some (.ins 0 fs) := by
  obtain ⟨R', e, w, ht⟩ := f4 (d := d) (R := R) h1 h2 hl hps
  obtain ⟨fs, e2, h3, h4⟩ := w.settle
  refine ⟨fs, ?_, h3, h4⟩
  show ((callD pg (d + 4) R.length 4 [.root R.length, ti P, .lst (ties ps)] (R ++ [.ins 0 []])).bind fun v R1 => match v with
    | .non => Pv.settle R.length (.root R.length) R1
    | _ => .no) = _
  rw [e, Rz.bind_ok]
  show Pv.settle R.length (.root R.length) R' = _
  rw [e2, ht]
end K63

/-! K64c: counts of a turned and of a doubled round. -/
namespace K63
open Pv
def cnt (f : Nat → Bool) (n : Nat) : Nat := ((List.range n).filter f).length
theorem cnt_last (f : Nat → Bool) (n : Nat) : cnt f (n + 1) = cnt f n + if f n then 1 else 0 := by
  unfold cnt
  rw [List.range_succ, List.filter_append, List.length_append]
  congr 1
  by_cases h : f n = true <;> simp [h]
theorem cnt_first (f : Nat → Bool) : ∀ n : Nat, cnt f (n + 1) = (if f 0 then 1 else 0) + cnt (fun a => f (a + 1)) n
  | 0 => by rw [cnt_last]; simp [cnt]
  | n + 1 => by rw [cnt_last, cnt_first f n, cnt_last (fun a => f (a + 1)) n]; omega
theorem cnt_shift (f : Nat → Bool) {n : Nat} (h : ∀ a, f (a + n) = f a) : ∀ t, cnt (fun a => f (a + t)) n = cnt f n
  | 0 => rfl
  | t + 1 => by
    rw [← cnt_shift f h t]
    have h1 := cnt_first (fun a => f (a + t)) n
    rw [cnt_last] at h1
    have h2 : f (n + t) = f (0 + t) := by rw [Nat.add_comm n t, h, Nat.zero_add]
    simp only [h2] at h1
    have h3 : (fun a => f (a + 1 + t)) = fun a => f (a + (t + 1)) := by funext a; congr 1; omega
    rw [h3] at h1
    omega
theorem cnt_add (f : Nat → Bool) (n : Nat) : ∀ m, cnt f (n + m) = cnt f n + cnt (fun a => f (a + n)) m
  | 0 => by simp [cnt]
  | m + 1 => by
    rw [← Nat.add_assoc, cnt_last, cnt_add f n m, cnt_last (fun a => f (a + n)) m, Nat.add_comm n m]
    omega
theorem fits_per (S W : List Nat) (a : Nat) : fits S W (a + S.length) = fits S W a := by
  unfold fits
  congr 1
  funext i
  rw [show a + S.length + i = a + i + S.length by omega, Nat.add_mod_right]
/-- the doubled round holds a walk twice as often -/
theorem times_two (S W : List Nat) : times (S ++ S) W = 2 * times S W := by
  have e : ∀ a, fits (S ++ S) W a = fits S W a := fun a => by
    unfold fits
    congr 1
    funext i
    congr 1
    rw [List.length_append]
    by_cases h0 : S.length = 0
    · rw [List.length_eq_zero_iff.mp h0]; simp
    · have h1 := Nat.mod_lt (a + i) (show 0 < S.length by omega)
      have h2 : (a + i) % (S.length + S.length) % S.length = (a + i) % S.length := Nat.mod_mod_of_dvd _ ⟨2, by omega⟩
      have h3 := Nat.mod_lt (a + i) (show 0 < S.length + S.length by omega)
      by_cases h : (a + i) % (S.length + S.length) < S.length
      · rw [List.getElem?_append_left h, ← h2, Nat.mod_eq_of_lt h]
      · generalize (a + i) % (S.length + S.length) = r at h2 h3 h
        have h4 : r % S.length = r - S.length := by rw [Nat.mod_eq_sub_mod (by omega), Nat.mod_eq_of_lt (by omega)]
        rw [List.getElem?_append_right (by omega), ← h2, h4]
  have e2 : fits (S ++ S) W = fits S W := funext e
  show cnt (fits (S ++ S) W) (S ++ S).length = 2 * cnt (fits S W) S.length
  rw [e2, List.length_append, cnt_add, cnt_shift _ (fits_per S W)]
  omega
/-- a turned round holds a walk as often -/
theorem times_turn (S W : List Nat) {t : Nat} (ht : t ≤ S.length) : times (S.drop t ++ S.take t) W = times S W := by
  have hl : (S.drop t ++ S.take t).length = S.length := by simp; omega
  have e : ∀ a, fits (S.drop t ++ S.take t) W a = fits S W (a + t) := fun a => by
    unfold fits
    congr 1
    funext i
    congr 1
    rw [hl]
    by_cases h0 : S.length = 0
    · rw [List.length_eq_zero_iff.mp h0]; simp
    · have h1 := Nat.mod_lt (a + i) (show 0 < S.length by omega)
      have h2 : (a + t + i) % S.length = ((a + i) % S.length + t) % S.length := by rw [Nat.mod_add_mod]; congr 1; omega
      rw [h2]
      generalize (a + i) % S.length = r at h1
      by_cases h : r < S.length - t
      · rw [List.getElem?_append_left (by simpa using h), List.getElem?_drop, Nat.mod_eq_of_lt (show r + t < S.length by omega), Nat.add_comm]
      · have h4 : (r + t) % S.length = r - (S.length - t) := by
          rw [Nat.mod_eq_sub_mod (by omega), Nat.mod_eq_of_lt (by omega)]
          omega
        rw [List.getElem?_append_right (by simp; omega), List.length_drop, List.getElem?_take_of_lt (by omega), h4]
  have e2 : fits (S.drop t ++ S.take t) W = fun a => fits S W (a + t) := funext e
  show cnt (fits (S.drop t ++ S.take t) W) (S.drop t ++ S.take t).length = cnt (fits S W) S.length
  rw [e2, hl, cnt_shift _ (fits_per S W)]
end K63

/-! K64d: repr of a short list of small numbers. -/
namespace K63
open Pv
open PySem (PyData)
theorem short1 : ∀ n : Nat, n < 20 → (PyData.shown (.int (n : Int))).length ≤ 13 := by decide +kernel
theorem short2 : ∀ n : Nat, n < 20 → PyData.showable (.int (n : Int)) = true := by decide +kernel
theorem pds_facts : ∀ ns : List Nat, (∀ a ∈ ns, a < 20) → PyData.leavesShortAll 13 (pds ns) = true ∧ PyData.showableAll (pds ns) = true ∧ PyData.hasDictAll (pds ns) = false
  | [], _ => ⟨rfl, rfl, rfl⟩
  | n :: ns, h => by
    obtain ⟨h1, h2, h3⟩ := pds_facts ns fun a ha => h a (List.mem_cons_of_mem _ ha)
    have h4 := short1 n (h n List.mem_cons_self)
    have h5 := short2 n (h n List.mem_cons_self)
    refine ⟨?_, ?_, ?_⟩
    · show PyData.leavesShortAll 13 (PyData.int n :: pds ns) = true
      simp only [PyData.leavesShortAll, PyData.leavesShort, h1, decide_eq_true h4, Bool.and_self]
    · show PyData.showableAll (PyData.int n :: pds ns) = true
      simp only [PyData.showableAll, h5, h2, Bool.and_self]
    · show PyData.hasDictAll (PyData.int n :: pds ns) = false
      simp only [PyData.hasDictAll, PyData.hasDict, h3, Bool.or_self]
theorem short3 : ∀ n : Nat, n < 20 → PyData.weight (.int (n : Int)) ≤ 100 := by decide +kernel
theorem weight_pds : ∀ ns : List Nat, (∀ a ∈ ns, a < 20) → PyData.weightAll (pds ns) ≤ 101 * ns.length
  | [], _ => Nat.le_refl _
  | n :: ns, h => by
    have h1 := weight_pds ns fun a ha => h a (List.mem_cons_of_mem _ ha)
    have h2 := short3 n (h n List.mem_cons_self)
    have e : PyData.weightAll (pds (n :: ns)) = PyData.weight (.int (n : Int)) + 1 + PyData.weightAll (pds ns) := by
      show PyData.weightAll (PyData.int n :: pds ns) = _
      rw [PyData.weightAll]
    rw [e, List.length_cons]
    omega
theorem repr_tis {ns : List Nat} (h : ∀ a ∈ ns, a < 20) (hl : ns.length ≤ 1000) (R : Rs) : reprT R (.lst (tis ns)) = some (PyData.list (pds ns)).shown := by
  obtain ⟨h1, h2, h3⟩ := pds_facts ns h
  have a1 : (PyData.list (pds ns)).leavesShort 13 = true := by simp only [PyData.leavesShort, h1]
  have a2 : (PyData.list (pds ns)).weight ≤ 2 ^ 20 := by
    have e : (PyData.list (pds ns)).weight = PyData.weightAll (pds ns) := by rw [PyData.weight]
    have := weight_pds ns h
    have e2 : (2 : Nat) ^ 20 = 1048576 := by decide
    rw [e, e2]
    omega
  have a3 := PyData.shown_fits (by decide) (by decide) a1 a2
  have a4 : (PyData.list (pds ns)).showable = true := by simp only [PyData.showable, h2]
  have a5 : (PyData.list (pds ns)).hasDict = false := by simp only [PyData.hasDict, h3]
  have a6 : (PyData.list (pds ns)).depth ≤ 64 := by
    unfold PyData.depth
    rw [depth_pds]; omega
  unfold reprT
  rw [data_tis]
  show guardO ((PyData.list (pds ns)).showable && !(PyData.list (pds ns)).hasDict && decide ((PyData.list (pds ns)).depth ≤ 64) && decide ((PyData.list (pds ns)).shown.length ≤ PySem.sizeLine)) (some (PyData.list (pds ns)).shown) = _
  rw [a4, a5, decide_eq_true a6, decide_eq_true a3] <;> rfl
end K63

/-! K64e: a cycle through all places. -/
namespace K63
open Pv
def cyc (o : List Nat) : List (Nat × Nat) := o.zip (o.drop 1 ++ o.take 1)
theorem cyc_fst (o : List Nat) : (cyc o).map (·.1) = o := by
  unfold cyc
  refine List.map_fst_zip ?_
  simp
  omega
theorem cyc_out {o : List Nat} {v : Nat} (h : v ∈ o) : ∃ q ∈ cyc o, q.1 = v := by
  rw [← cyc_fst o] at h
  obtain ⟨q, h1, h2⟩ := List.mem_map.mp h
  exact ⟨q, h1, h2⟩
/-- ties that hold a cycle through all places: each tie has a tie behind it -/
theorem outs_of {o : List Nat} {ps : List (Nat × Nat)} {P : Nat} (hc : ∀ q ∈ cyc o, q ∈ ps) (ho : ∀ v, v < P → v ∈ o) (hp : ∀ p ∈ ps, p.2 < P) : Outs ps := fun p h => by
  obtain ⟨q, h1, h2⟩ := cyc_out (ho _ (hp p h))
  exact ⟨q, hc q h1, h2⟩
end K63

/-! K64f: pop and insert at a root. -/
namespace K63
open Pv
theorem ins_root {n k i : Nat} {xs : List TV} {p : Nat × Nat} {R : Rs} (h : R[k]? = some (.lst xs)) (hl : xs.length ≤ 100000) (hi : i ≤ 100000) :
    mthV n .insert (.root k) [ti i, tie p] R = .ok .non (R.set k (.lst (xs.take i ++ [tie p] ++ xs.drop i))) := by
  have e1 : decide (xs.length < PySem.sizeLine ∧ (0 : Int) ≤ (i : Int) ∧ (i : Int) < 2 ^ 63) = true := decide_eq_true ⟨Nat.lt_of_le_of_lt hl (by decide +kernel), by omega, by
    have : (2 : Int) ^ 63 = 9223372036854775808 := by decide
    omega⟩
  have e2 : mayPut n k (tie p) = true := by simp [mayPut, hb, hbs]
  show (match R[k]? with
    | some (.lst xs) => guardR (decide (xs.length < PySem.sizeLine ∧ (0 : Int) ≤ (i : Int) ∧ (i : Int) < 2 ^ 63) && mayPut n k (tie p)) (Rz.ok TV.non (R.set k (.lst (xs.take (i : Int).toNat ++ [tie p] ++ xs.drop (i : Int).toNat))))
    | _ => Rz.no) = _
  rw [h]
  show guardR (decide (xs.length < PySem.sizeLine ∧ (0 : Int) ≤ (i : Int) ∧ (i : Int) < 2 ^ 63) && mayPut n k (tie p)) _ = _
  rw [e1, e2] <;> rfl
end K63

/-! K64g: pop at a place of a root. -/
namespace K63
open Pv
theorem pop_any {n k : Nat} {i : Int} {xs : List TV} {R : Rs} (h : R[k]? = some (.lst xs)) :
    mthV n .pop (.root k) [.int i] R = match guardO (decide (-(2 ^ 63) ≤ i ∧ i < 2 ^ 63)) (L2.ixN xs.length i) with
      | some j => match xs[j]? with
        | some v => .ok v (R.set k (.lst (xs.eraseIdx j)))
        | none => .no
      | none => .no := by
  unfold mthV
  simp only [h] <;>
  (generalize guardO (decide (-(2 ^ 63) ≤ i ∧ i < 2 ^ 63)) (L2.ixN xs.length i) = g
   cases g with
   | none => rfl
   | some j =>
     generalize hq : xs[j]? = q
     cases q <;> simp only [hq])
theorem pop_root {n k i : Nat} {xs : List TV} {v : TV} {R : Rs} (h : R[k]? = some (.lst xs)) (hv : xs[i]? = some v) (hi : i ≤ 100000) :
    mthV n .pop (.root k) [ti i] R = .ok v (R.set k (.lst (xs.eraseIdx i))) := by
  have hl := (List.getElem?_eq_some_iff.mp hv).1
  have e1 : decide (-(2 ^ 63) ≤ (i : Int) ∧ (i : Int) < 2 ^ 63) = true := decide_eq_true (by
    have : (2 : Int) ^ 63 = 9223372036854775808 := by decide
    omega)
  have e2 : L2.ixN xs.length (i : Int) = some i := by
    unfold L2.ixN
    rw [if_pos (by omega), if_pos (by omega), Int.toNat_natCast]
  rw [pop_any h, e1, e2]
  simp only [guardO, if_true, hv]
end K63

/-! K64h: a drawn close web, first half. -/
namespace K63
open Pv
/-- the pot as a root -/
abbrev pa (a b : Int) : RO := .lst [.int a, .int b]
/-- a list of numbers as a root -/
abbrev rl (ns : List Nat) : RO := .lst (tis ns)
theorem f14c {d n0 : Nat} {a b m : Int} {S : Rs} (ha : 0 ≤ a) (hm : 0 < m) (hm2 : m < 1073741824) :
    ∃ (x : Nat) (a' b' : Int), callD pg (d + 1) n0 14 [.root 0, .int m] (pa a b :: S) = .ok (ti x) (pa a' b' :: S) ∧ (x : Int) < m ∧ 0 ≤ a' := by
  have h := f14 (d := d) (n0 := n0) (k := 0) (m := m) (R := pa a b :: S) ⟨a, b, rfl, ha⟩ hm hm2
  refine h.elim fun x h => h.elim fun a' h => h.elim fun b' h => ⟨x, a', b', h.1, h.2⟩
/-- a draw in the text -/
theorem g14 {d n0 : Nat} {e : Ex} {σ : Slots} {a b m : Int} {S : Rs} (he : evE (gOf pg (d + 1)) n0 e σ (pa a b :: S) = .ok (.int m) (pa a b :: S)) (h0 : σ[0]? = some (some (.root 0))) (ha : 0 ≤ a) (hm : 0 < m) (hm2 : m < 1073741824) :
    ∃ (x : Nat) (a' b' : Int), evE (gOf pg (d + 1)) n0 (.call 14 (.cons (.var 0) (.cons e .nil))) σ (pa a b :: S) = .ok (ti x) (pa a' b' :: S) ∧ (x : Int) < m ∧ 0 ≤ a' := by
  have h := f14c (d := d) (n0 := n0) (a := a) (b := b) (m := m) (S := S) ha hm hm2
  refine h.elim fun x h => h.elim fun a' h => h.elim fun b' h => ⟨x, a', b', ?_, h.2⟩
  rw [eE_call, es_cons, eE_var, h0]
  show ((evs (gOf pg (d + 1)) n0 (.cons e .nil) σ (pa a b :: S)).bind fun xs R2 => Rz.ok (TV.root 0 :: xs) R2).bind _ = _
  rw [es_cons, he, Rz.bind_ok, es_nil, Rz.bind_ok, Rz.bind_ok, Rz.bind_ok]
  exact h.1
theorem data_root {k : Nat} {ns : List Nat} {R : Rs} (h : R[k]? = some (rl ns)) : dataOf R (.root k) = some (.list (pds ns)) := by
  have hk := (List.getElem?_eq_some_iff.mp h).1
  unfold dataOf
  show (rootT R 0 R.length (3 + 1) k).bind toD = _
  rw [rootT_at (Nat.zero_le _) (by omega) h]
  show (((subs (rootT R 0 R.length 3) (tis ns)).map RO.lst).map treeOf).bind toD = _
  rw [subs_tis]
  show (toDs (tis ns)).map PySem.PyData.list = _
  rw [toDs_tis] <;> rfl
theorem eqT_root {k : Nat} {ns : List Nat} {R : Rs} (h : R[k]? = some (rl ns)) (bs : List Nat) : eqT R (.root k) (.lst (tis bs)) = some (decide (ns = bs)) := by
  unfold eqT
  rw [data_root h, data_tis]
  show guardO (PySem.SeqAt.shaped (.list (pds ns)) && PySem.SeqAt.shaped (.list (pds bs))) (some (PySem.PyData.eqv (.list (pds ns)) (.list (pds bs)))) = _
  rw [shaped_pds, shaped_pds]
  show some (PySem.PyData.eqv (.list (pds ns)) (.list (pds bs))) = _
  have e : PySem.PyData.eqv (.list (pds ns)) (.list (pds bs)) = PySem.PyData.eqvAll (pds ns) (pds bs) := by
    rw [PySem.PyData.eqv]
  rw [e, eqv_pds]
abbrev c15 : Ex := .cmp .NotEq (.var 5) (.lst false .nil)
abbrev b15 : Sms := .cons (.expr (.mth .append false (.var 4) (.cons (.mth .pop false (.var 5) (.cons (.call 14 (.cons (.var 0) (.cons (.bi .len false (.cons (.var 5) (.nil))) (.nil)))) (.nil))) (.nil)))) (.nil)
abbrev σ15 (P : Nat) (s6 s7 s8 s9 s10 s11 : Option TV) : Slots := [some (.root 0), some (ti 4), some (ti 4), some (ti P), some (.root 1), some (.root 2), s6, s7, s8, s9, s10, s11]
theorem cond15 {G : Ga} {n1 P : Nat} {a b : Int} {o l : List Nat} {s6 s7 s8 s9 s10 s11 : Option TV} :
    evE G n1 c15 (σ15 P s6 s7 s8 s9 s10 s11) [pa a b, rl o, rl l] = .ok (.bl (!decide (l = []))) [pa a b, rl o, rl l] := by
  have h := eqT_root (R := [pa a b, rl o, rl l]) (k := 2) (ns := l) rfl []
  have hz : decide (([] : List TV).length ≤ PySem.sizeLine) = true := rfl
  rw [eE_cmp, eE_var]
  show (Rz.ok (TV.root 2) [pa a b, rl o, rl l]).bind _ = _
  rw [Rz.bind_ok, eE_lst, es_nil, Rz.bind_ok, hz, guardR_true, alloc_f, Rz.bind_ok]
  show ofO (((eqT [pa a b, rl o, rl l] (.root 2) (.lst (tis []))).map (!·)).map TV.bl) _ = _
  rw [h] <;> rfl
theorem erase_len {l : List Nat} {i : Nat} (h : i < l.length) : (l.eraseIdx i).length + 1 = l.length := by
  rw [List.length_eraseIdx]; simp [h]; omega
theorem erase_mem {l : List Nat} {i : Nat} (h : i < l.length) (v : Nat) : v ∈ l ↔ (v = l[i] ∨ v ∈ l.eraseIdx i) := by
  constructor
  · intro hv
    obtain ⟨j, hj, e⟩ := List.getElem_of_mem hv
    by_cases hji : j = i
    · subst hji; exact .inl e.symm
    · right
      rw [List.mem_eraseIdx_iff_getElem]
      exact ⟨j, hj, hji, e⟩
  · rintro (rfl | hv)
    · exact List.getElem_mem h
    · exact List.mem_of_mem_eraseIdx hv
theorem tis_erase (l : List Nat) (i : Nat) : (tis l).eraseIdx i = tis (l.eraseIdx i) := by
  unfold tis
  induction l generalizing i with
  | nil => rfl
  | cons x l ih =>
    cases i with
    | zero => rfl
    | succ i =>
      rw [List.map_cons, List.eraseIdx_cons_succ, List.eraseIdx_cons_succ, List.map_cons, ih]
theorem body15 {d n1 P : Nat} {a b : Int} {o l : List Nat} {s6 s7 s8 s9 s10 s11 : Option TV} (ha : 0 ≤ a) (ho : o.length ≤ 1000) (hl : 0 < l.length) (hl2 : l.length ≤ 1000) :
    ∃ (i : Nat) (h : i < l.length) (a' b' : Int), evSs (gOf pg (d + 1)) n1 b15 (σ15 P s6 s7 s8 s9 s10 s11) [pa a b, rl o, rl l] = .ok (.nx, σ15 P s6 s7 s8 s9 s10 s11) [pa a' b', rl (o ++ [l[i]]), rl (l.eraseIdx i)] ∧ 0 ≤ a' := by
  have hlen : evE (gOf pg (d + 1)) n1 (.bi .len false (.cons (.var 5) (.nil))) (σ15 P s6 s7 s8 s9 s10 s11) [pa a b, rl o, rl l] = .ok (.int (l.length : Int)) [pa a b, rl o, rl l] := by
    have : biV .len false [.root 2] [pa a b, rl o, rl l] = .ok (.int (l.length : Int)) [pa a b, rl o, rl l] := by
      rw [bi_len (len_root (k := 2) (xs := tis l) rfl)]; simp
    exact bi_ (es1 (v_ rfl)) this
  have hd := g14 (d := d) (n0 := n1) (S := [rl o, rl l]) hlen rfl ha (by omega) (by omega)
  refine hd.elim fun i hd => hd.elim fun a' hd => hd.elim fun b' hd => ?_
  obtain ⟨h1, h2, h3⟩ := hd
  have hi : i < l.length := by omega
  refine ⟨i, hi, a', b', ?_, h3⟩
  have hp := pop_root (n := n1) (k := 2) (i := i) (xs := tis l) (v := ti l[i]) (R := [pa a' b', rl o, rl l]) rfl (by simp [hi]) (by omega)
  have hok1 : mtOk .append (.root 1) [pa a b, rl o, rl l] = true := rfl
  have hok2 : mtOk .pop (.root 2) [pa a b, rl o, rl l] = true := rfl
  have e1 : evE (gOf pg (d + 1)) n1 (.mth .pop false (.var 5) (.cons (.call 14 (.cons (.var 0) (.cons (.bi .len false (.cons (.var 5) (.nil))) (.nil)))) (.nil))) (σ15 P s6 s7 s8 s9 s10 s11) [pa a b, rl o, rl l] = .ok (ti l[i]) [pa a' b', rl o, rl (l.eraseIdx i)] := by
    rw [tis_erase] at hp
    exact mth_ (v_ rfl) hok2 (es1 h1) hp
  have hap := app_root (n := n1) (k := 1) (xs := tis o) (i := l[i]) (R := [pa a' b', rl o, rl (l.eraseIdx i)]) rfl (by simpa using (by omega : o.length ≤ 100000))
  have e2 : evS (gOf pg (d + 1)) n1 (.expr (.mth .append false (.var 4) (.cons (.mth .pop false (.var 5) (.cons (.call 14 (.cons (.var 0) (.cons (.bi .len false (.cons (.var 5) (.nil))) (.nil)))) (.nil))) (.nil)))) (σ15 P s6 s7 s8 s9 s10 s11) [pa a b, rl o, rl l] = .ok (.nx, σ15 P s6 s7 s8 s9 s10 s11) [pa a' b', rl (o ++ [l[i]]), rl (l.eraseIdx i)] := by
    have e : tis o ++ [ti l[i]] = tis (o ++ [l[i]]) := by simp
    rw [e] at hap
    exact expr_ (mth_ (v_ rfl) hok1 (es1 e1) hap)
  rw [nx_cons e2, eSs_nil]
end K63

/-! K64i: a drawn close web. -/
namespace K63
open Pv
theorem cut_head (xs : List TV) (h : 1 ≤ xs.length) : cutA xs none (some 1) = xs.take 1 := by
  unfold cutA
  have e1 : HT.sIx xs.length 0 none = 0 := by simp [HT.sIx]
  have e2 : HT.sIx xs.length xs.length (some 1) = 1 := by
    simp [HT.sIx]; omega
  rw [e1, e2]; simp
theorem lp15 {d n1 P : Nat} {a b : Int} {l0 : List Nat} {s6 s7 s8 s9 s10 s11 : Option TV} (ha : 0 ≤ a) (hP : P ≤ 900) (hl : l0.length = P) (hlt : ∀ v ∈ l0, v < P) (hall : ∀ v, v < P → v ∈ l0) :
    ∃ (o : List Nat) (a' b' : Int), evS (gOf pg (d + 1)) n1 (.whl c15 b15) (σ15 P s6 s7 s8 s9 s10 s11) [pa a b, rl [], rl l0] = .ok (.nx, σ15 P s6 s7 s8 s9 s10 s11) [pa a' b', rl o, rl []] ∧ 0 ≤ a' ∧ o.length = P ∧ (∀ v ∈ o, v < P) ∧ (∀ v, v < P → v ∈ o) := by
  have key : (evS (gOf pg (d + 1)) n1 (.whl c15 b15) (σ15 P s6 s7 s8 s9 s10 s11) [pa a b, rl [], rl l0]).wp fun r R' =>
      ∃ (o : List Nat) (a' b' : Int), r = (.nx, σ15 P s6 s7 s8 s9 s10 s11) ∧ R' = [pa a' b', rl o, rl []] ∧ 0 ≤ a' ∧ o.length = P ∧ (∀ v ∈ o, v < P) ∧ (∀ v, v < P → v ∈ o) := by
    rw [evS_whl]
    refine loop_wp (fun m i σ R' => ∃ (o l : List Nat) (a' b' : Int), σ = σ15 P s6 s7 s8 s9 s10 s11 ∧ R' = [pa a' b', rl o, rl l] ∧ 0 ≤ a' ∧ o.length + l.length = P ∧ (∀ v, v ∈ o ∨ v ∈ l → v < P) ∧ (∀ v, v < P → v ∈ o ∨ v ∈ l) ∧ m = l.length) ?_ W0 l0.length 0 _ _ (by show l0.length < 1000000; omega) ⟨[], l0, a, b, rfl, rfl, ha, by simpa using hl, fun v hv => hlt v (by simpa using hv), fun v hv => .inr (hall v hv), rfl⟩
    rintro m i σ R1 ⟨o, l, a1, b1, rfl, rfl, h1, h2, h3, h4, rfl⟩
    unfold whlTurn
    rw [cond15, Rz.bind_ok]
    by_cases he : l = []
    · subst he
      rw [decide_eq_true rfl]
      exact ⟨o, a1, b1, rfl, rfl, h1, by simpa using h2, fun v hv => h3 v (.inl hv), fun v hv => (h4 v hv).resolve_right (by simp)⟩
    · rw [decide_eq_false he]
      have hl0 : 0 < l.length := List.length_pos_iff.mpr he
      have hb := body15 (d := d) (n1 := n1) (P := P) (a := a1) (b := b1) (o := o) (l := l) (s6 := s6) (s7 := s7) (s8 := s8) (s9 := s9) (s10 := s10) (s11 := s11) h1 (by omega) hl0 (by omega)
      refine hb.elim fun x hb => hb.elim fun hx hb => hb.elim fun a2 hb => hb.elim fun b2 hb => ?_
      obtain ⟨e, h5⟩ := hb
      show ((evSs (gOf pg (d + 1)) n1 b15 _ _).bind _).wp _
      rw [e, Rz.bind_ok, wp_ok]
      have hm := erase_mem hx
      have hel := erase_len hx
      refine ⟨(l.eraseIdx x).length, by omega, o ++ [l[x]], l.eraseIdx x, a2, b2, rfl, rfl, h5, ?_, fun v hv => ?_, fun v hv => ?_, rfl⟩
      · rw [List.length_append, List.length_singleton]; omega
      · refine h3 v ?_
        rcases hv with hv | hv
        · rcases List.mem_append.mp hv with hv | hv
          · exact .inl hv
          · rw [List.mem_singleton] at hv
            exact .inr ((hm v).mpr (.inl hv))
        · exact .inr ((hm v).mpr (.inr hv))
      · rcases h4 v hv with h | h
        · exact .inl (List.mem_append.mpr (.inl h))
        · rcases (hm v).mp h with h | h
          · exact .inl (List.mem_append.mpr (.inr (List.mem_singleton.mpr h)))
          · exact .inr h
  generalize evS (gOf pg (d + 1)) n1 (.whl c15 b15) (σ15 P s6 s7 s8 s9 s10 s11) [pa a b, rl [], rl l0] = r at key ⊢
  cases r with
  | ok x R1 =>
    obtain ⟨o, a', b', h1, h2, h3⟩ := key
    subst h1 h2
    exact ⟨o, a', b', rfl, h3⟩
  | exc _ _ _ => exact False.elim key
  | no => exact False.elim key
theorem zip_tis : ∀ (x y : List Nat), List.zipWith (fun x y => TV.tup [x, y]) (tis x) (tis y) = ties (x.zip y)
  | [], _ => rfl
  | _ :: _, [] => rfl
  | a :: x, b :: y => by
    have ih := zip_tis x y
    show TV.tup [ti a, ti b] :: List.zipWith (fun x y => TV.tup [x, y]) (tis x) (tis y) = tie (a, b) :: ties (x.zip y)
    rw [ih]
theorem zip15 {G : Ga} {n1 P : Nat} {a b : Int} {o l : List Nat} {s6 s7 s8 s9 s10 s11 : Option TV} (h1 : 1 ≤ o.length) (h2 : o.length ≤ 1000) :
    evS G n1 (.asg (.name 6) (.lzip true (.var 4) (.bin .Add false (.slc false (.var 4) (.some (.cst (.int 1))) (.none)) (.slc false (.var 4) (.none) (.some (.cst (.int 1))))))) (σ15 P s6 s7 s8 s9 s10 s11) [pa a b, rl o, rl l] = .ok (.nx, σ15 P (some (.root 3)) s7 s8 s9 s10 s11) [pa a b, rl o, rl l, .lst (ties (cyc o))] := by
  have ho : 1 ≤ (tis o).length := by simpa using h1
  have hr : ([pa a b, rl o, rl l] : Rs)[1]? = some (.lst (tis o)) := rfl
  have e1 : evE G n1 (.slc false (.var 4) (.some (.cst (.int 1))) (.none)) (σ15 P s6 s7 s8 s9 s10 s11) [pa a b, rl o, rl l] = .ok (.lst (tis (o.drop 1))) [pa a b, rl o, rl l] := by
    rw [slc_ (v_ rfl) (o1_ eE_cst) eO_none, slc_root hr, cut1 _ ho]
    show Rz.ok (TV.lst (tis o).tail) _ = _
    rw [← List.drop_one]
    unfold tis
    rw [List.map_drop]
  have e2 : evE G n1 (.slc false (.var 4) (.none) (.some (.cst (.int 1)))) (σ15 P s6 s7 s8 s9 s10 s11) [pa a b, rl o, rl l] = .ok (.lst (tis (o.take 1))) [pa a b, rl o, rl l] := by
    rw [slc_ (v_ rfl) eO_none (o1_ eE_cst), slc_root hr, cut_head _ ho]
    show Rz.ok (TV.lst ((tis o).take 1)) _ = _
    unfold tis
    rw [List.map_take]
  have e3 : evE G n1 (.bin .Add false (.slc false (.var 4) (.some (.cst (.int 1))) (.none)) (.slc false (.var 4) (.none) (.some (.cst (.int 1))))) (σ15 P s6 s7 s8 s9 s10 s11) [pa a b, rl o, rl l] = .ok (.lst (tis (o.drop 1 ++ o.take 1))) [pa a b, rl o, rl l] := by
    rw [eE_bin, e1, Rz.bind_ok, e2, Rz.bind_ok, add_lst (Nat.le_trans (m := 100000) (by simp; omega) (by decide +kernel))]
    simp
  rw [eS_asg, eE_lzip, eE_var]
  show (((evE G n1 (.bin .Add false _ _) (σ15 P s6 s7 s8 s9 s10 s11) [pa a b, rl o, rl l]).bind fun y R2 => match asL R2 (.root 1), asL R2 y with
    | some xs, some ys => alloc true (.lst (List.zipWith (fun x y => TV.tup [x, y]) xs ys)) R2
    | _, _ => .no).bind _) = _
  rw [e3, Rz.bind_ok]
  show ((alloc true (.lst (List.zipWith (fun x y => TV.tup [x, y]) (tis o) (tis (o.drop 1 ++ o.take 1)))) [pa a b, rl o, rl l]).bind _) = _
  rw [zip_tis] <;> rfl
end K63

/-! K64j: a drawn close web: ties put in. -/
namespace K63
open Pv
/-- the roots while ties are put in -/
abbrev R15 (a b : Int) (o l : List Nat) (ps : List (Nat × Nat)) : Rs := [pa a b, rl o, rl l, .lst (ties ps)]
abbrev τ15 (P : Nat) (s7 s8 s9 s10 s11 : Option TV) : Slots := σ15 P (some (.root 3)) s7 s8 s9 s10 s11
section
variable {d n1 P : Nat} {a b : Int} {o l : List Nat} {ps : List (Nat × Nat)} {s7 s8 s9 s10 s11 : Option TV}
theorem t1 (ha : 0 ≤ a) : ∃ (w : Nat) (a' b' : Int), evS (gOf pg (d + 1)) n1 (.asg (.name 8) (.call 14 (.cons (.var 0) (.cons (.cst (.int 5)) (.nil))))) (τ15 P s7 s8 s9 s10 s11) (R15 a b o l ps) = .ok (.nx, τ15 P s7 (some (ti w)) s9 s10 s11) (R15 a' b' o l ps) ∧ 0 ≤ a' := by
  have h := g14 (d := d) (n0 := n1) (e := .cst (.int 5)) (σ := τ15 P s7 s8 s9 s10 s11) (a := a) (b := b) (m := 5) (S := [rl o, rl l, .lst (ties ps)]) (by rw [eE_cst]) rfl ha (by omega) (by omega)
  refine h.elim fun w h => h.elim fun a' h => h.elim fun b' h => ⟨w, a', b', ?_, h.2.2⟩
  exact asg_ h.1
theorem t2 (ha : 0 ≤ a) (hP : 0 < P) (hP2 : P ≤ 1000) : ∃ (x y : Nat) (a' b' : Int), evS (gOf pg (d + 1)) n1 (.par 9 10 (.call 14 (.cons (.var 0) (.cons (.var 3) (.nil)))) (.call 14 (.cons (.var 0) (.cons (.var 3) (.nil))))) (τ15 P s7 s8 s9 s10 s11) (R15 a b o l ps) = .ok (.nx, τ15 P s7 s8 (some (ti x)) (some (ti y)) s11) (R15 a' b' o l ps) ∧ 0 ≤ a' ∧ x < P ∧ y < P := by
  have h := g14 (d := d) (n0 := n1) (e := .var 3) (σ := τ15 P s7 s8 s9 s10 s11) (a := a) (b := b) (m := (P : Int)) (S := [rl o, rl l, .lst (ties ps)]) (by rw [eE_var] <;> rfl) rfl ha (by omega) (by omega)
  refine h.elim fun x h => h.elim fun a1 h => h.elim fun b1 h => ?_
  have h' := g14 (d := d) (n0 := n1) (e := .var 3) (σ := τ15 P s7 s8 s9 s10 s11) (a := a1) (b := b1) (m := (P : Int)) (S := [rl o, rl l, .lst (ties ps)]) (by rw [eE_var] <;> rfl) rfl h.2.2 (by omega) (by omega)
  refine h'.elim fun y h' => h'.elim fun a2 h' => h'.elim fun b2 h' => ⟨x, y, a2, b2, ?_, h'.2.2, by omega, by omega⟩
  exact par_ h.1 h'.1
theorem t3 {w x y : Nat} (hx : x < P) (hy : y < P) : ∃ q : Nat × Nat, evS (gOf pg d) n1 (.asg (.name 11) (.tup (.cons (.var 9) (.cons (.ifx (.cmp .Eq (.var 8) (.cst (.int 1))) (.var 9) (.var 10)) (.nil))))) (τ15 P s7 (some (ti w)) (some (ti x)) (some (ti y)) s11) (R15 a b o l ps) = .ok (.nx, τ15 P s7 (some (ti w)) (some (ti x)) (some (ti y)) (some (tie q))) (R15 a b o l ps) ∧ q.1 < P ∧ q.2 < P := by
  have h1 : ∃ z : Nat, evE (gOf pg d) n1 (.ifx (.cmp .Eq (.var 8) (.cst (.int 1))) (.var 9) (.var 10)) (τ15 P s7 (some (ti w)) (some (ti x)) (some (ti y)) s11) (R15 a b o l ps) = .ok (ti z) (R15 a b o l ps) ∧ z < P := by
    by_cases h : (w : Int) = 1
    · exact ⟨x, by simp [h], hx⟩
    · exact ⟨y, by simp [h], hy⟩
  refine h1.elim fun z h1 => ⟨(x, z), ?_, hx, h1.2⟩
  exact asg_ (tup2 (v_ rfl) h1.1)
theorem len15 : evE (gOf pg d) n1 (.bi .len false (.cons (.var 6) (.nil))) (τ15 P s7 s8 s9 s10 s11) (R15 a b o l ps) = .ok (ti ps.length) (R15 a b o l ps) := by
  have : biV .len false [.root 3] (R15 a b o l ps) = .ok (.int (ps.length : Int)) (R15 a b o l ps) := by
    rw [bi_len (len_root (k := 3) (xs := ties ps) rfl)]; simp
  exact bi_ (es1 (v_ rfl)) this
theorem t4 {w : Nat} {q : Nat × Nat} (ha : 0 ≤ a) (h0 : 0 < ps.length) (hl : ps.length ≤ 1000) (hps : ∀ p ∈ ps, p.1 < P ∧ p.2 < P) (hq : q.1 < P ∧ q.2 < P) : ∃ (q' : Nat × Nat) (a' b' : Int), evS (gOf pg (d + 1)) n1 (.ifs (.cmp .Eq (.var 8) (.cst (.int 0))) (.cons (.asg (.name 11) (.sub (.var 6) (.call 14 (.cons (.var 0) (.cons (.bi .len false (.cons (.var 6) (.nil))) (.nil)))))) (.nil)) (.nil)) (τ15 P s7 (some (ti w)) s9 s10 (some (tie q))) (R15 a b o l ps) = .ok (.nx, τ15 P s7 (some (ti w)) s9 s10 (some (tie q'))) (R15 a' b' o l ps) ∧ 0 ≤ a' ∧ q'.1 < P ∧ q'.2 < P := by
  have hc : evE (gOf pg (d + 1)) n1 (.cmp .Eq (.var 8) (.cst (.int 0))) (τ15 P s7 (some (ti w)) s9 s10 (some (tie q))) (R15 a b o l ps) = .ok (.bl (decide ((w : Int) = 0))) (R15 a b o l ps) := by
    exact cmp_ (v_ rfl) eE_cst (by rw [cmp_eq, eqT_int])
  by_cases hw : (w : Int) = 0
  · rw [decide_eq_true hw] at hc
    have h := g14 (d := d) (n0 := n1) (σ := τ15 P s7 (some (ti w)) s9 s10 (some (tie q))) (a := a) (b := b) (m := (ps.length : Int)) (S := [rl o, rl l, .lst (ties ps)]) (len15 (d := d + 1)) rfl ha (by omega) (by omega)
    refine h.elim fun x h => h.elim fun a1 h => h.elim fun b1 h => ?_
    have hx : x < ps.length := by omega
    refine ⟨ps[x], a1, b1, ?_, h.2.2, hps _ (List.getElem_mem hx)⟩
    have e : evE (gOf pg (d + 1)) n1 (.sub (.var 6) (.call 14 (.cons (.var 0) (.cons (.bi .len false (.cons (.var 6) (.nil))) (.nil))))) (τ15 P s7 (some (ti w)) s9 s10 (some (tie q))) (R15 a b o l ps) = .ok (tie ps[x]) (R15 a1 b1 o l ps) := by
      exact sub_ (v_ rfl) h.1 (by rw [ixV_root (k := 3) (xs := ties ps) _ rfl, ix_of (ties_at (List.getElem?_eq_getElem hx))])
    rw [if_t hc]
    exact nx_ (asg_ e) nil_
  · rw [decide_eq_false hw] at hc
    exact ⟨q, a, b, if_skip hc, ha, hq⟩
theorem t5 {q : Nat × Nat} (ha : 0 ≤ a) (hl : ps.length ≤ 1000) : ∃ (j : Nat) (a' b' : Int), evS (gOf pg (d + 1)) n1 (.expr (.mth .insert false (.var 6) (.cons (.call 14 (.cons (.var 0) (.cons (.bin .Add false (.bi .len false (.cons (.var 6) (.nil))) (.cst (.int 1))) (.nil)))) (.cons (.var 11) (.nil))))) (τ15 P s7 s8 s9 s10 (some (tie q))) (R15 a b o l ps) = .ok (.nx, τ15 P s7 s8 s9 s10 (some (tie q))) (R15 a' b' o l (ps.take j ++ q :: ps.drop j)) ∧ 0 ≤ a' ∧ j ≤ ps.length := by
  have e0 : evE (gOf pg (d + 1)) n1 (.bin .Add false (.bi .len false (.cons (.var 6) (.nil))) (.cst (.int 1))) (τ15 P s7 s8 s9 s10 (some (tie q))) (R15 a b o l ps) = .ok (.int ((ps.length : Int) + 1)) (R15 a b o l ps) := by
    exact bin_ len15 eE_cst rfl
  have h := g14 (d := d) (n0 := n1) (σ := τ15 P s7 s8 s9 s10 (some (tie q))) (a := a) (b := b) (m := (ps.length : Int) + 1) (S := [rl o, rl l, .lst (ties ps)]) e0 rfl ha (by omega) (by omega)
  refine h.elim fun j h => h.elim fun a1 h => h.elim fun b1 h => ⟨j, a1, b1, ?_, h.2.2, by omega⟩
  have hok : mtOk .insert (.root 3) (R15 a b o l ps) = true := rfl
  have hi := ins_root (n := n1) (k := 3) (i := j) (xs := ties ps) (p := q) (R := R15 a1 b1 o l ps) rfl (by simp; omega) (by omega)
  have ee : (ties ps).take j ++ [tie q] ++ (ties ps).drop j = ties (ps.take j ++ q :: ps.drop j) := by
    unfold ties
    simp
  rw [ee] at hi
  exact expr_ (mth_ (v_ rfl) hok (es2 h.1 (v_ rfl)) hi)
end
end K63

/-! K64k: _law_close. -/
namespace K63
open Pv
/-- the statements of the for -/
abbrev u1 : Sm := .asg (.name 8) (.call 14 (.cons (.var 0) (.cons (.cst (.int 5)) (.nil))))
abbrev u2 : Sm := .par 9 10 (.call 14 (.cons (.var 0) (.cons (.var 3) (.nil)))) (.call 14 (.cons (.var 0) (.cons (.var 3) (.nil))))
abbrev u3 : Sm := .asg (.name 11) (.tup (.cons (.var 9) (.cons (.ifx (.cmp .Eq (.var 8) (.cst (.int 1))) (.var 9) (.var 10)) (.nil))))
abbrev u4 : Sm := .ifs (.cmp .Eq (.var 8) (.cst (.int 0))) (.cons (.asg (.name 11) (.sub (.var 6) (.call 14 (.cons (.var 0) (.cons (.bi .len false (.cons (.var 6) (.nil))) (.nil)))))) (.nil)) (.nil)
abbrev u5 : Sm := .expr (.mth .insert false (.var 6) (.cons (.call 14 (.cons (.var 0) (.cons (.bin .Add false (.bi .len false (.cons (.var 6) (.nil))) (.cst (.int 1))) (.nil)))) (.cons (.var 11) (.nil))))
abbrev bdy15 : Sms := .cons u1 (.cons u2 (.cons u3 (.cons u4 (.cons u5 .nil))))
abbrev it15 : It := .rng1 (.call 14 (.cons (.var 0) (.cons (.bin .Add false (.var 2) (.cst (.int 1))) (.nil))))
/-- ties of a close web under way -/
structure Cl (P : Nat) (o : List Nat) (n : Nat) (ps : List (Nat × Nat)) : Prop where
  len : ps.length = P + n
  lt : ∀ p ∈ ps, p.1 < P ∧ p.2 < P
  cy : ∀ q ∈ cyc o, q ∈ ps
theorem Cl.put {P n j : Nat} {o : List Nat} {ps : List (Nat × Nat)} {q : Nat × Nat} (h : Cl P o n ps) (hq : q.1 < P ∧ q.2 < P) (hj : j ≤ ps.length) : Cl P o (n + 1) (ps.take j ++ q :: ps.drop j) where
  len := by
    have := h.len
    simp; omega
  lt := fun p hp => by
    rcases List.mem_append.mp hp with hp | hp
    · exact h.lt p (List.mem_of_mem_take hp)
    · rcases List.mem_cons.mp hp with hp | hp
      · rw [hp]; exact hq
      · exact h.lt p (List.mem_of_mem_drop hp)
  cy := fun p hp => by
    have hp := h.cy p hp
    rw [← List.take_append_drop j ps] at hp
    rcases List.mem_append.mp hp with hp | hp
    · exact List.mem_append.mpr (.inl hp)
    · exact List.mem_append.mpr (.inr (List.mem_cons_of_mem _ hp))
theorem turn15 {d n1 P n : Nat} {a b : Int} {o l : List Nat} {ps : List (Nat × Nat)} {s7 s8 s9 s10 s11 : Option TV} (ha : 0 ≤ a) (hP : 0 < P) (hP2 : P ≤ 900) (hn : n ≤ 50) (h : Cl P o n ps) :
    ∃ (r8 r9 r10 r11 : Option TV) (a' b' : Int) (ps' : List (Nat × Nat)), evSs (gOf pg (d + 1)) n1 bdy15 (τ15 P s7 s8 s9 s10 s11) (R15 a b o l ps) = .ok (.nx, τ15 P s7 r8 r9 r10 r11) (R15 a' b' o l ps') ∧ 0 ≤ a' ∧ Cl P o (n + 1) ps' := by
  have hl := h.len
  refine (t1 (d := d) (n1 := n1) (P := P) (b := b) (o := o) (l := l) (ps := ps) (s7 := s7) (s8 := s8) (s9 := s9) (s10 := s10) (s11 := s11) ha).elim fun w e1 => e1.elim fun a1 e1 => e1.elim fun b1 e1 => ?_
  refine (t2 (d := d) (n1 := n1) (P := P) (a := a1) (b := b1) (o := o) (l := l) (ps := ps) (s7 := s7) (s8 := some (ti w)) (s9 := s9) (s10 := s10) (s11 := s11) e1.2 hP (by omega)).elim fun x e2 => e2.elim fun y e2 => e2.elim fun a2 e2 => e2.elim fun b2 e2 => ?_
  refine (t3 (d := d + 1) (n1 := n1) (P := P) (a := a2) (b := b2) (o := o) (l := l) (ps := ps) (s7 := s7) (s11 := s11) (w := w) (x := x) (y := y) e2.2.2.1 e2.2.2.2).elim fun q e3 => ?_
  refine (t4 (d := d) (n1 := n1) (P := P) (a := a2) (b := b2) (o := o) (l := l) (ps := ps) (s7 := s7) (s9 := some (ti x)) (s10 := some (ti y)) (w := w) (q := q) e2.2.1 (by omega) (by omega) h.lt e3.2).elim fun q' e4 => e4.elim fun a4 e4 => e4.elim fun b4 e4 => ?_
  refine (t5 (d := d) (n1 := n1) (P := P) (a := a4) (b := b4) (o := o) (l := l) (ps := ps) (s7 := s7) (s8 := some (ti w)) (s9 := some (ti x)) (s10 := some (ti y)) (q := q') e4.2.1 (by omega)).elim fun j e5 => e5.elim fun a5 e5 => e5.elim fun b5 e5 => ?_
  refine ⟨some (ti w), some (ti x), some (ti y), some (tie q'), a5, b5, ps.take j ++ q' :: ps.drop j, ?_, e5.2.1, h.put e4.2.2 e5.2.2⟩
  rw [nx_cons e1.1, nx_cons e2.1, nx_cons e3.1, nx_cons e4.1, nx_cons e5.1, eSs_nil]
theorem for15 {d n1 P : Nat} {a b : Int} {o l : List Nat} {ps : List (Nat × Nat)} {s7 s8 s9 s10 s11 : Option TV} (ha : 0 ≤ a) (hP : 0 < P) (hP2 : P ≤ 900) (h : Cl P o 0 ps) :
    ∃ (n : Nat) (σ' : Slots) (a' b' : Int) (ps' : List (Nat × Nat)), evS (gOf pg (d + 1)) n1 (.for (.name 7) it15 bdy15) (τ15 P s7 s8 s9 s10 s11) (R15 a b o l ps) = .ok (.nx, σ') (R15 a' b' o l ps') ∧ (∃ r7 r8 r9 r10 r11, σ' = τ15 P r7 r8 r9 r10 r11) ∧ 0 ≤ a' ∧ n < 5 ∧ Cl P o n ps' := by
  have h0 := g14 (d := d) (n0 := n1) (e := .bin .Add false (.var 2) (.cst (.int 1))) (σ := τ15 P s7 s8 s9 s10 s11) (a := a) (b := b) (m := 5) (S := [rl o, rl l, .lst (ties ps)]) (by rw [eE_bin, eE_var]; rfl) rfl ha (by omega) (by omega)
  refine h0.elim fun n h0 => h0.elim fun a1 h0 => h0.elim fun b1 h0 => ?_
  obtain ⟨e0, hn, ha1⟩ := h0
  have key : (evS (gOf pg (d + 1)) n1 (.for (.name 7) it15 bdy15) (τ15 P s7 s8 s9 s10 s11) (R15 a b o l ps)).wp fun r R' =>
      ∃ (σ' : Slots) (a' b' : Int) (ps' : List (Nat × Nat)), r = (.nx, σ') ∧ R' = R15 a' b' o l ps' ∧ (∃ r7 r8 r9 r10 r11, σ' = τ15 P r7 r8 r9 r10 r11) ∧ 0 ≤ a' ∧ Cl P o n ps' := by
    rw [evS_for, ev_rng (n := n) (by omega) e0, Rz.bind_ok]
    refine for_wp n (by show n < 1000000; omega) (fun i σ R' => ∃ (r7 r8 r9 r10 r11 : Option TV) (a' b' : Int) (ps' : List (Nat × Nat)), σ = τ15 P r7 r8 r9 r10 r11 ∧ R' = R15 a' b' o l ps' ∧ 0 ≤ a' ∧ Cl P o i ps') ⟨s7, s8, s9, s10, s11, a1, b1, ps, rfl, rfl, ha1, h⟩ ?_ ?_
    · rintro i σ R1 hi ⟨r7, r8, r9, r10, r11, a2, b2, ps2, rfl, rfl, h2, h3⟩
      have ht := turn15 (d := d) (n1 := n1) (P := P) (n := i) (a := a2) (b := b2) (o := o) (l := l) (ps := ps2) (s7 := some (ti i)) (s8 := r8) (s9 := r9) (s10 := r10) (s11 := r11) h2 hP hP2 (by omega) h3
      refine ht.elim fun q8 ht => ht.elim fun q9 ht => ht.elim fun q10 ht => ht.elim fun q11 ht => ht.elim fun a3 ht => ht.elim fun b3 ht => ht.elim fun ps3 ht => ?_
      unfold forTurn
      have hat : Wk.at (.rng 0 n) i (R15 a2 b2 o l ps2) = some (some (ti i)) := by simp [hi]
      rw [hat]
      show ((evT (gOf pg (d + 1)) n1 (.name 7) (ti i) _ (R15 a2 b2 o l ps2)).bind _).wp _
      rw [eT_name, Rz.bind_ok]
      show ((evSs (gOf pg (d + 1)) n1 bdy15 (τ15 P (some (ti i)) r8 r9 r10 r11) (R15 a2 b2 o l ps2)).bind _).wp _
      rw [ht.1, Rz.bind_ok, wp_ok]
      exact ⟨_, _, _, _, _, _, _, _, rfl, rfl, ht.2.1, ht.2.2⟩
    · rintro σ R1 ⟨r7, r8, r9, r10, r11, a2, b2, ps2, rfl, rfl, h2, h3⟩
      unfold forTurn
      have hat : Wk.at (.rng 0 n) n (R15 a2 b2 o l ps2) = some none := by simp
      rw [hat]
      exact ⟨rfl, _, _, _, _, rfl, rfl, ⟨_, _, _, _, _, rfl⟩, h2, h3⟩
  generalize evS (gOf pg (d + 1)) n1 (.for (.name 7) it15 bdy15) (τ15 P s7 s8 s9 s10 s11) (R15 a b o l ps) = r at key ⊢
  cases r with
  | ok x R1 =>
    obtain ⟨σ', a', b', ps', h1, h2, h3⟩ := key
    subst h1 h2
    exact ⟨n, σ', a', b', ps', rfl, h3.1, h3.2.1, by omega, h3.2.2⟩
  | exc _ _ _ => exact False.elim key
  | no => exact False.elim key
/-- what a drawn close web is -/
structure Close (P : Nat) (ps : List (Nat × Nat)) : Prop where
  pos : 0 < P
  le : P ≤ 4
  len : 0 < ps.length ∧ ps.length ≤ 8
  lt : ∀ p ∈ ps, p.1 < P ∧ p.2 < P
  cy : ∃ o : List Nat, o.length = P ∧ (∀ v, v < P → v ∈ o) ∧ ∀ q ∈ cyc o, q ∈ ps
theorem range_tis (n : Nat) : ((List.range n).map fun (i : Nat) => TV.int (i : Int)) = tis (List.range n) := rfl
theorem cyc_len (o : List Nat) : (cyc o).length = o.length := by
  rw [← List.length_map (·.1), cyc_fst]
theorem mem_cyc {o : List Nat} {q : Nat × Nat} (h : q ∈ cyc o) : q.1 ∈ o ∧ q.2 ∈ o := by
  unfold cyc at h
  obtain ⟨h1, h2⟩ := List.of_mem_zip (a := q.1) (b := q.2) h
  refine ⟨h1, ?_⟩
  rcases List.mem_append.mp h2 with h2 | h2
  · exact List.mem_of_mem_drop h2
  · exact List.mem_of_mem_take h2
theorem f15 {d n0 : Nat} {a b : Int} (ha : 0 ≤ a) : ∃ (P : Nat) (ps : List (Nat × Nat)) (a' b' : Int), callD pg (d + 2) n0 15 [.root 0, ti 4, ti 4] [pa a b] = .ok (.tup [ti P, .lst (ties ps)]) [pa a' b'] ∧ 0 ≤ a' ∧ Close P ps := by
  have h0 := g14 (d := d) (n0 := 1) (e := .var 1) (σ := [some (.root 0), some (ti 4), some (ti 4), none, none, none, none, none, none, none, none, none]) (a := a) (b := b) (m := 4) (S := []) (by rw [eE_var] <;> rfl) rfl ha (by omega) (by omega)
  refine h0.elim fun x h0 => h0.elim fun a1 h0 => h0.elim fun b1 h0 => ?_
  obtain ⟨e0, hx, ha1⟩ := h0
  have s0 : evS (gOf pg (d + 1)) 1 (.asg (.name 3) (.bin .Add false (.cst (.int 1)) (.call 14 (.cons (.var 0) (.cons (.var 1) (.nil)))))) [some (.root 0), some (ti 4), some (ti 4), none, none, none, none, none, none, none, none, none] [pa a b] = .ok (.nx, [some (.root 0), some (ti 4), some (ti 4), some (ti (x + 1)), none, none, none, none, none, none, none, none]) [pa a1 b1] := by
    refine asg_ (bin_ eE_cst e0 ?_)
    rw [add_int, show (1 + (x : Int)) = ((x + 1 : Nat) : Int) by omega]
  have s1 : evS (gOf pg (d + 1)) 1 (.par 4 5 (.lst true (.nil)) (.lrng true (.var 3))) [some (.root 0), some (ti 4), some (ti 4), some (ti (x + 1)), none, none, none, none, none, none, none, none] [pa a1 b1] = .ok (.nx, σ15 (x + 1) none none none none none none) [pa a1 b1, rl [], rl (List.range (x + 1))] := by
    exact par_ ((lst_ es0 (Nat.zero_le _)).trans rfl) ((lrng_ (n := x + 1) (v_ rfl) (by omega)).trans rfl)
  have s2 := lp15 (d := d) (n1 := 1) (P := x + 1) (a := a1) (b := b1) (l0 := List.range (x + 1)) (s6 := none) (s7 := none) (s8 := none) (s9 := none) (s10 := none) (s11 := none) ha1 (by omega) (by simp) (fun v hv => List.mem_range.mp hv) (fun v hv => List.mem_range.mpr hv)
  refine s2.elim fun o s2 => s2.elim fun a2 s2 => s2.elim fun b2 s2 => ?_
  obtain ⟨s2, ha2, ho1, ho2, ho3⟩ := s2
  have s3 := zip15 (G := gOf pg (d + 1)) (n1 := 1) (P := x + 1) (a := a2) (b := b2) (o := o) (l := []) (s6 := none) (s7 := none) (s8 := none) (s9 := none) (s10 := none) (s11 := none) (by omega) (by omega)
  have hcl : Cl (x + 1) o 0 (cyc o) := ⟨by rw [cyc_len, ho1], fun p hp => ⟨ho2 _ (mem_cyc hp).1, ho2 _ (mem_cyc hp).2⟩, fun _ h => h⟩
  have s4 := for15 (d := d) (n1 := 1) (P := x + 1) (a := a2) (b := b2) (o := o) (l := []) (ps := cyc o) (s7 := none) (s8 := none) (s9 := none) (s10 := none) (s11 := none) ha2 (by omega) (by omega) hcl
  refine s4.elim fun n s4 => s4.elim fun σ' s4 => s4.elim fun a4 s4 => s4.elim fun b4 s4 => s4.elim fun ps s4 => ?_
  obtain ⟨s4, ⟨r7, r8, r9, r10, r11, hσ⟩, ha4, hn, hcl4⟩ := s4
  subst hσ
  have hl4 := hcl4.len
  refine ⟨x + 1, ps, a4, b4, ?_, ha4, by omega, by omega, by omega, hcl4.lt, o, ho1, ho3, hcl4.cy⟩
  rw [run_eq (F := fn_15) rfl, run_tree bd_15 [some (.root 0), some (ti 4), some (ti 4), none, none, none, none, none, none, none, none, none] rfl rfl rfl rfl]
  show ((evSs (gOf pg (d + 1)) 1 bd_15 _ _).bind _) = _
  unfold bd_15
  rw [nx_cons s0, nx_cons s1, nx_cons s2, nx_cons s3, nx_cons s4, eSs_cons, eS_ret, tup2 (x := ti (x + 1)) (y := .root 3) (R1 := R15 a4 b4 o [] ps) (by rw [eE_var] <;> rfl) (by rw [eE_var] <;> rfl), Rz.bind_ok, Rz.bind_ok, Rz.bind_ok]
  show Pv.settle 1 (.tup [ti (x + 1), .root 3]) (R15 a4 b4 o [] ps) = _
  have hs : sub (rootT (R15 a4 b4 o [] ps) 1 (R15 a4 b4 o [] ps).length deepN) (.root 3) = some (.lst (ties ps)) := by
    show rootT (R15 a4 b4 o [] ps) 1 4 (3 + 1) 3 = _
    rw [rootT_at (o := .lst (ties ps)) (by omega) (by omega) rfl]
    show ((subs _ (ties ps)).map RO.lst).map treeOf = _
    rw [subs_ties] <;> rfl
  show ofO ((match sub _ (ti (x + 1)), (match sub (rootT (R15 a4 b4 o [] ps) 1 (R15 a4 b4 o [] ps).length deepN) (.root 3), (some [] : Option (List TV)) with
    | some y, some ys => some (y :: ys)
    | _, _ => none) with
    | some y, some ys => some (y :: ys)
    | _, _ => none).map TV.tup) _ = _
  rw [hs] <;> rfl
end K63

/-! K64l: levels. -/
namespace K63
open Pv
open L2 (Key)
def lvl (L : List (Nat × Nat)) (v : Nat) : Option Nat := (L.find? fun p => decide (p.1 = v)).map (·.2)
def putL (L : List (Nat × Nat)) (v n : Nat) : List (Nat × Nat) := if (L.any fun p => decide (p.1 = v)) = true then L.map (fun p => if p.1 = v then (p.1, n) else p) else L ++ [(v, n)]
theorem lvl_map {L : List (Nat × Nat)} {v n : Nat} (w : Nat) : lvl (L.map (fun p => if p.1 = v then (p.1, n) else p)) w = if w = v ∧ (lvl L v).isSome = true then some n else lvl L w := by
  induction L with
  | nil => simp [lvl]
  | cons p L ih =>
    have c : ∀ (q : Nat × Nat) (M : List (Nat × Nat)) (u : Nat), lvl (q :: M) u = if q.1 = u then some q.2 else lvl M u := fun q M u => by
      unfold lvl
      by_cases h : q.1 = u
      · rw [List.find?_cons_of_pos (by simpa using h), if_pos h] <;> rfl
      · rw [List.find?_cons_of_neg (by simpa using h), if_neg h]
    rw [List.map_cons, c, c, c, ih]
    by_cases h1 : p.1 = v
    · by_cases h2 : w = v
      · subst h2; simp [h1]
      · have h3 : ¬ p.1 = w := fun e => h2 (e.symm.trans h1)
        have h4 : ¬ v = w := fun e => h2 e.symm
        simp [h1, h2, h4]
    · by_cases h3 : p.1 = w
      · have h4 : ¬ w = v := fun e => h1 (h3.trans e)
        simp [h3, h4]
      · simp [h1, h3]
theorem lvl_put (L : List (Nat × Nat)) (v n w : Nat) : lvl (putL L v n) w = if w = v then some n else lvl L w := by
  unfold putL
  by_cases h : (L.any fun p => decide (p.1 = v)) = true
  · rw [if_pos h, lvl_map]
    have hs : (lvl L v).isSome = true := by
      unfold lvl
      rw [Option.isSome_map, List.find?_isSome]
      simpa using h
    simp [hs]
  · rw [if_neg h]
    have hn : ∀ p ∈ L, p.1 ≠ v := fun p hp e => h (List.any_eq_true.mpr ⟨p, hp, by simpa using e⟩)
    unfold lvl
    rw [List.find?_append]
    by_cases hw : w = v
    · subst hw
      have : L.find? (fun p => decide (p.1 = w)) = none := by
        rw [List.find?_eq_none]
        intro p hp
        simpa using hn p hp
      simp [this]
    · have h4 : ¬ v = w := fun e => hw e.symm
      simp [hw, h4]
theorem len_put (L : List (Nat × Nat)) (v n : Nat) : (putL L v n).length ≤ L.length + 1 := by
  unfold putL
  split
  · simp
  · simp
/-- levels under way -/
structure Lv (ps : List (Nat × Nat)) (v0 t : Nat) (L : List (Nat × Nat)) : Prop where
  st : lvl L v0 = some 0
  dn : ∀ v n, lvl L v = some n → v ≠ v0 → ∃ p ∈ ps, p.1 = v ∧ ∃ m, lvl L p.2 = some m ∧ m < n
  hi : ∀ v n, lvl L v = some n → n ≤ t
  len : L.length ≤ t + 1
theorem Lv.mono {ps : List (Nat × Nat)} {v0 t u : Nat} {L : List (Nat × Nat)} (h : Lv ps v0 t L) (hu : t ≤ u) : Lv ps v0 u L := ⟨h.st, h.dn, fun v n e => Nat.le_trans (h.hi v n e) hu, Nat.le_trans h.len (by omega)⟩
theorem Lv.relax {ps : List (Nat × Nat)} {v0 t m : Nat} {L : List (Nat × Nat)} {p : Nat × Nat} (h : Lv ps v0 t L) (hp : p ∈ ps) (hm : lvl L p.2 = some m) (ht : t + 1 ≤ 99) : Lv ps v0 (t + 1) (putL L p.1 (min ((lvl L p.1).getD 99) (m + 1))) := by
  have hmt := h.hi _ _ hm
  refine ⟨?_, fun v n e hv => ?_, fun v n e => ?_, ?_⟩
  · rw [lvl_put]
    by_cases e : v0 = p.1
    · rw [if_pos e, ← e, h.st]; simp
    · rw [if_neg e]; exact h.st
  · rw [lvl_put] at e
    by_cases e1 : v = p.1
    · rw [if_pos e1] at e
      have e := Option.some.inj e
      cases hl : lvl L p.1 with
      | none =>
        rw [hl] at e
        refine ⟨p, hp, e1.symm, m, ?_, ?_⟩
        · rw [lvl_put, if_neg (fun c => by rw [c] at hm; rw [hm] at hl; cases hl)]; exact hm
        · simp at e; omega
      | some k =>
        rw [hl] at e
        simp at e
        by_cases hk : k ≤ m + 1
        · have hn : n = k := by omega
          subst hn
          obtain ⟨q, hq, e2, m', e3, e4⟩ := h.dn v n (by rw [e1]; exact hl) hv
          refine ⟨q, hq, e2, m', ?_, e4⟩
          rw [lvl_put]
          by_cases c : q.2 = p.1
          · rw [c, hl] at e3
            have := Option.some.inj e3
            omega
          · rw [if_neg c]; exact e3
        · refine ⟨p, hp, e1.symm, m, ?_, by omega⟩
          rw [lvl_put, if_neg (fun c => by rw [c, hl] at hm; have := Option.some.inj hm; omega)]; exact hm
    · rw [if_neg e1] at e
      obtain ⟨q, hq, e2, m', e3, e4⟩ := h.dn v n e hv
      by_cases c : q.2 = p.1
      · refine ⟨q, hq, e2, min ((lvl L p.1).getD 99) (m + 1), ?_, ?_⟩
        · rw [lvl_put, if_pos c]
        · rw [← c, e3]; simp; omega
      · exact ⟨q, hq, e2, m', by rw [lvl_put, if_neg c]; exact e3, e4⟩
  · rw [lvl_put] at e
    by_cases e1 : v = p.1
    · rw [if_pos e1] at e
      have := Option.some.inj e
      omega
    · rw [if_neg e1] at e
      exact Nat.le_trans (h.hi v n e) (by omega)
  · have := len_put L p.1 (min ((lvl L p.1).getD 99) (m + 1))
    have := h.len
    omega
/-- a place has a level -/
abbrev has (L : List (Nat × Nat)) (v : Nat) : Prop := (lvl L v).isSome = true
theorem has_put {L : List (Nat × Nat)} {v n w : Nat} (h : has L w) : has (putL L v n) w := by
  unfold has
  rw [lvl_put]
  split
  · rfl
  · exact h
theorem has_put' {L : List (Nat × Nat)} {v n : Nat} : has (putL L v n) v := by
  unfold has
  rw [lvl_put, if_pos rfl] <;> rfl
/-- levels as a dict -/
def dk (L : List (Nat × Nat)) : List (Key × TV) := L.map fun p => (Sum.inl (p.1 : Int), ti p.2)
theorem dk_len (L : List (Nat × Nat)) : (dk L).length = L.length := by simp [dk]
theorem key_eq (a b : Nat) : ((Sum.inl (a : Int) : Key) = Sum.inl (b : Int)) ↔ a = b := by
  constructor
  · intro h; have := Sum.inl.inj h; omega
  · intro h; rw [h]
theorem find_dk (L : List (Nat × Nat)) (v : Nat) : (dk L).find? (fun kv => decide (kv.1 = Sum.inl (v : Int))) = (L.find? fun p => decide (p.1 = v)).map fun p => (Sum.inl (p.1 : Int), ti p.2) := by
  induction L with
  | nil => rfl
  | cons p L ih =>
    show (((Sum.inl (p.1 : Int) : Key), ti p.2) :: dk L).find? _ = _
    by_cases h : p.1 = v
    · have h2 : decide ((Sum.inl (p.1 : Int) : Key) = Sum.inl (v : Int)) = true := decide_eq_true ((key_eq _ _).mpr h)
      rw [List.find?_cons_of_pos (by exact h2), List.find?_cons_of_pos (by simpa using h)] <;> rfl
    · have h2 : ¬ decide ((Sum.inl (p.1 : Int) : Key) = Sum.inl (v : Int)) = true := fun c => h ((key_eq _ _).mp (of_decide_eq_true c))
      rw [List.find?_cons_of_neg (by exact h2), List.find?_cons_of_neg (by simpa using h)]
      exact ih
theorem get_dk (L : List (Nat × Nat)) (v : Nat) : ((dk L).find? (fun kv => decide (kv.1 = Sum.inl (v : Int)))).map (·.2) = (lvl L v).map ti := by
  rw [find_dk]
  unfold lvl
  rw [Option.map_map, Option.map_map] <;> rfl
theorem some_dk (L : List (Nat × Nat)) (v : Nat) : ((dk L).find? (fun kv => decide (kv.1 = Sum.inl (v : Int)))).isSome = (lvl L v).isSome := by
  rw [find_dk]
  unfold lvl
  rw [Option.isSome_map, Option.isSome_map]
theorem put_dk (L : List (Nat × Nat)) (v n : Nat) : putK (dk L) (Sum.inl (v : Int)) (ti n) = dk (putL L v n) := by
  have e : ((dk L).any fun kv => decide (kv.1 = Sum.inl (v : Int))) = L.any fun p => decide (p.1 = v) := by
    unfold dk
    rw [List.any_map]
    congr 1
    funext p
    show decide ((Sum.inl (p.1 : Int) : Key) = Sum.inl (v : Int)) = decide (p.1 = v)
    rw [decide_eq_decide]
    exact key_eq _ _
  unfold putK putL
  rw [e]
  by_cases h : (L.any fun p => decide (p.1 = v)) = true
  · rw [if_pos h, if_pos h]
    unfold dk
    rw [List.map_map, List.map_map]
    apply List.map_congr_left
    intro p _
    show (if (Sum.inl (p.1 : Int) : Key) = Sum.inl (v : Int) then ((Sum.inl (p.1 : Int) : Key), ti n) else (Sum.inl (p.1 : Int), ti p.2)) = _
    by_cases hp : p.1 = v
    · rw [if_pos ((key_eq _ _).mpr hp)]
      simp [hp]
    · rw [if_neg (fun c => hp ((key_eq _ _).mp c))]
      simp [hp]
  · rw [if_neg h, if_neg h]
    unfold dk
    rw [List.map_append] <;> rfl
end K63

/-! K64m: the levels, walked. -/
namespace K63
open Pv
abbrev R18 (a b : Int) (ws : List Nat) (L : List (Nat × Nat)) : Rs := [pa a b, rl ws, .dct (dk L)]
abbrev σ18 (P : Nat) (ps : List (Nat × Nat)) (s5 s6 s7 s8 s9 s10 s11 : Option TV) : Slots := [some (.root 0), some (ti P), some (.lst (ties ps)), some (.root 1), some (.root 2), s5, s6, s7, s8, s9, s10, s11]
theorem ix_dk {a b : Int} {ws : List Nat} {L : List (Nat × Nat)} {v n : Nat} (h : lvl L v = some n) : ixV (R18 a b ws L) (.root 2) (.int (v : Int)) = some (ti n) := by
  show ((dk L).find? (fun kv => decide (kv.1 = Sum.inl (v : Int)))).map (·.2) = _
  rw [get_dk, h] <;> rfl
theorem in_dk {a b : Int} {ws : List Nat} {L : List (Nat × Nat)} {v : Nat} : inV (R18 a b ws L) (ti v) (.root 2) = some (lvl L v).isSome := by
  show some ((dk L).find? (fun kv => decide (kv.1 = Sum.inl (v : Int)))).isSome = _
  rw [some_dk]
theorem get_dk' {a b : Int} {ws : List Nat} {L : List (Nat × Nat)} {v n n0 : Nat} : mthV n0 .get (.root 2) [ti v, ti n] (R18 a b ws L) = .ok (ti ((lvl L v).getD n)) (R18 a b ws L) := by
  show Rz.ok ((((dk L).find? (fun kv => decide (kv.1 = Sum.inl (v : Int)))).map (·.2)).getD (ti n)) _ = _
  rw [get_dk]
  cases lvl L v <;> rfl
theorem put_dk' {a b : Int} {ws : List Nat} {L : List (Nat × Nat)} {v n n0 : Nat} (hl : L.length ≤ 1000) : putIx n0 (.root 2) (ti v) (ti n) (R18 a b ws L) = some (R18 a b ws (putL L v n)) := by
  have h1 : decide ((dk L).length < PySem.sizeLine) = true := decide_eq_true (by rw [dk_len]; exact Nat.lt_of_le_of_lt hl (by decide +kernel))
  have h2 : [ti n].all (mayPut n0 2) = true := by simp [mayPut, hb]
  show guardO (decide ((dk L).length < PySem.sizeLine)) (setR n0 2 (.dct (putK (dk L) (Sum.inl (v : Int)) (ti n))) [ti n] (R18 a b ws L)) = _
  rw [h1, put_dk]
  show guardO ([ti n].all (mayPut n0 2)) _ = _
  rw [h2] <;> rfl
abbrev rx18 : Sm := .ifs (.cmp .In (.var 7) (.var 4)) (.cons (.asg (.sub (.var 4) (.var 6)) (.bi .min false (.cons (.mth .get false (.var 4) (.cons (.var 6) (.cons (.cst (.int 99)) (.nil)))) (.cons (.bin .Add false (.sub (.var 4) (.var 7)) (.cst (.int 1))) (.nil))))) (.nil)) (.nil)
abbrev in18 : Sm := .for (.tup (.cons (.name 6) (.cons (.name 7) (.nil)))) (.val (.var 2)) (.cons rx18 .nil)
abbrev out18 : Sm := .for (.name 5) (.rng1 (.var 1)) (.cons in18 .nil)
section
variable {d n1 P : Nat} {a b : Int} {ws : List Nat} {ps : List (Nat × Nat)} {s5 s6 s7 s8 s9 s10 s11 : Option TV} {L : List (Nat × Nat)}
theorem rx_no {u v : Nat} (h : lvl L v = none) : evSs (gOf pg d) n1 (.cons rx18 .nil) (σ18 P ps s5 (some (ti u)) (some (ti v)) s8 s9 s10 s11) (R18 a b ws L) = .ok (.nx, σ18 P ps s5 (some (ti u)) (some (ti v)) s8 s9 s10 s11) (R18 a b ws L) := by
  have hc : evE (gOf pg d) n1 (.cmp .In (.var 7) (.var 4)) (σ18 P ps s5 (some (ti u)) (some (ti v)) s8 s9 s10 s11) (R18 a b ws L) = .ok (.bl false) (R18 a b ws L) := by
    have := in_dk (a := a) (b := b) (ws := ws) (L := L) (v := v)
    rw [h] at this
    exact cmp_ (v_ rfl) (v_ rfl) this
  rw [nx_cons (if_skip hc), eSs_nil]
theorem rx_yes {u v m : Nat} (h : lvl L v = some m) (hl : L.length ≤ 1000) : evSs (gOf pg d) n1 (.cons rx18 .nil) (σ18 P ps s5 (some (ti u)) (some (ti v)) s8 s9 s10 s11) (R18 a b ws L) = .ok (.nx, σ18 P ps s5 (some (ti u)) (some (ti v)) s8 s9 s10 s11) (R18 a b ws (putL L u (min ((lvl L u).getD 99) (m + 1)))) := by
  have hc : evE (gOf pg d) n1 (.cmp .In (.var 7) (.var 4)) (σ18 P ps s5 (some (ti u)) (some (ti v)) s8 s9 s10 s11) (R18 a b ws L) = .ok (.bl true) (R18 a b ws L) := by
    have := in_dk (a := a) (b := b) (ws := ws) (L := L) (v := v)
    rw [h] at this
    exact cmp_ (v_ rfl) (v_ rfl) this
  have e1 : evE (gOf pg d) n1 (.mth .get false (.var 4) (.cons (.var 6) (.cons (.cst (.int 99)) (.nil)))) (σ18 P ps s5 (some (ti u)) (some (ti v)) s8 s9 s10 s11) (R18 a b ws L) = .ok (ti ((lvl L u).getD 99)) (R18 a b ws L) := by
    have hok : mtOk .get (.root 2) (R18 a b ws L) = true := rfl
    exact mth_ (v_ rfl) hok (es2 (v_ rfl) eE_cst) (get_dk' (n := 99))
  have e2 : evE (gOf pg d) n1 (.bin .Add false (.sub (.var 4) (.var 7)) (.cst (.int 1))) (σ18 P ps s5 (some (ti u)) (some (ti v)) s8 s9 s10 s11) (R18 a b ws L) = .ok (.int ((m : Int) + 1)) (R18 a b ws L) := by
    exact bin_ (sub_ (v_ rfl) (v_ rfl) (ix_dk h)) eE_cst rfl
  have e3 : evE (gOf pg d) n1 (.bi .min false (.cons (.mth .get false (.var 4) (.cons (.var 6) (.cons (.cst (.int 99)) (.nil)))) (.cons (.bin .Add false (.sub (.var 4) (.var 7)) (.cst (.int 1))) (.nil)))) (σ18 P ps s5 (some (ti u)) (some (ti v)) s8 s9 s10 s11) (R18 a b ws L) = .ok (ti (min ((lvl L u).getD 99) (m + 1))) (R18 a b ws L) := by
    refine bi_ (es2 e1 e2) ?_
    rw [bi_min2]
    congr 2
    split <;> omega
  have e4 : evS (gOf pg d) n1 rx18 (σ18 P ps s5 (some (ti u)) (some (ti v)) s8 s9 s10 s11) (R18 a b ws L) = .ok (.nx, σ18 P ps s5 (some (ti u)) (some (ti v)) s8 s9 s10 s11) (R18 a b ws (putL L u (min ((lvl L u).getD 99) (m + 1)))) := by
    have e5 : evT (gOf pg d) n1 (.sub (.var 4) (.var 6)) (ti (min ((lvl L u).getD 99) (m + 1))) (σ18 P ps s5 (some (ti u)) (some (ti v)) s8 s9 s10 s11) (R18 a b ws L) = .ok (σ18 P ps s5 (some (ti u)) (some (ti v)) s8 s9 s10 s11) (R18 a b ws (putL L u (min ((lvl L u).getD 99) (m + 1)))) :=
      tsub_ (v_ rfl) (v_ rfl) (put_dk' hl)
    rw [if_t hc]
    exact nx_ (asgt_ e3 e5) nil_
  rw [nx_cons e4, eSs_nil]
theorem at_ties {i : Nat} {p : Nat × Nat} {R : Rs} (h : ps[i]? = some p) : Wk.at (.lst (.lst (ties ps))) i R = some (some (tie p)) := by
  rw [at_lst, ties_at h]
theorem tgt67 {G : Ga} {u v : Nat} {R : Rs} : evT G n1 (.tup (.cons (.name 6) (.cons (.name 7) (.nil)))) (tie (u, v)) (σ18 P ps s5 s6 s7 s8 s9 s10 s11) R = .ok (σ18 P ps s5 (some (ti u)) (some (ti v)) s8 s9 s10 s11) R := by
  simp [Tgs.len]
/-- one round over the ties -/
theorem in_loop {v0 t : Nat} (hl : ps.length ≤ 20) (h : Lv ps v0 t L) (ht : t + ps.length ≤ 99) :
    ∃ (r6 r7 : Option TV) (L' : List (Nat × Nat)), evS (gOf pg d) n1 in18 (σ18 P ps s5 s6 s7 s8 s9 s10 s11) (R18 a b ws L) = .ok (.nx, σ18 P ps s5 r6 r7 s8 s9 s10 s11) (R18 a b ws L') ∧ Lv ps v0 (t + ps.length) L' ∧ (∀ u, has L u → has L' u) ∧ (∀ p ∈ ps, has L p.2 → has L' p.1) := by
  have key : (evS (gOf pg d) n1 in18 (σ18 P ps s5 s6 s7 s8 s9 s10 s11) (R18 a b ws L)).wp fun r R' =>
      ∃ (r6 r7 : Option TV) (L' : List (Nat × Nat)), r = (.nx, σ18 P ps s5 r6 r7 s8 s9 s10 s11) ∧ R' = R18 a b ws L' ∧ Lv ps v0 (t + ps.length) L' ∧ (∀ u, has L u → has L' u) ∧ (∀ p ∈ ps, has L p.2 → has L' p.1) := by
    have hi : evI (gOf pg d) n1 (.val (.var 2)) (σ18 P ps s5 s6 s7 s8 s9 s10 s11) (R18 a b ws L) = .ok (.lst (.lst (ties ps))) (R18 a b ws L) := by
      rw [eI_val, eE_var] <;> rfl
    rw [evS_for, hi, Rz.bind_ok]
    refine for_wp ps.length (by show ps.length < 1000000; omega) (fun i σ R' => ∃ (r6 r7 : Option TV) (L' : List (Nat × Nat)), σ = σ18 P ps s5 r6 r7 s8 s9 s10 s11 ∧ R' = R18 a b ws L' ∧ Lv ps v0 (t + i) L' ∧ (∀ u, has L u → has L' u) ∧ (∀ j p, j < i → ps[j]? = some p → has L p.2 → has L' p.1)) ⟨s6, s7, L, rfl, rfl, h, fun _ h => h, fun j p hj => absurd hj (Nat.not_lt_zero _)⟩ ?_ ?_
    · rintro i σ R1 hi ⟨r6, r7, L1, rfl, rfl, h1, h2, h3⟩
      obtain ⟨p, hp⟩ : ∃ p, ps[i]? = some p := ⟨_, List.getElem?_eq_getElem hi⟩
      have hpm : p ∈ ps := List.mem_of_getElem? hp
      unfold forTurn
      rw [at_ties hp]
      show ((evT (gOf pg d) n1 _ (tie (p.1, p.2)) _ _).bind _).wp _
      rw [tgt67, Rz.bind_ok]
      cases hv : lvl L1 p.2 with
      | none =>
        rw [rx_no hv, Rz.bind_ok, wp_ok]
        refine ⟨_, _, L1, rfl, rfl, h1.mono (by omega), h2, fun j q hj hq hh => ?_⟩
        by_cases e : j = i
        · subst e
          rw [hp] at hq
          cases hq
          have := h2 _ hh
          unfold has at this
          rw [hv] at this
          cases this
        · exact h3 j q (by omega) hq hh
      | some m =>
        have := h1.len
        rw [rx_yes hv (by omega), Rz.bind_ok, wp_ok]
        refine ⟨_, _, _, rfl, rfl, h1.relax hpm hv (by omega), fun u hu => has_put (h2 u hu), fun j q hj hq hh => ?_⟩
        by_cases e : j = i
        · subst e
          rw [hp] at hq
          cases hq
          exact has_put'
        · exact has_put (h3 j q (by omega) hq hh)
    · rintro σ R1 ⟨r6, r7, L1, rfl, rfl, h1, h2, h3⟩
      unfold forTurn
      have hat : Wk.at (.lst (.lst (ties ps))) ps.length (R18 a b ws L1) = some none := by simp
      rw [hat]
      refine ⟨rfl, r6, r7, L1, rfl, rfl, h1, h2, fun p hp hh => ?_⟩
      obtain ⟨j, hj⟩ := List.getElem?_of_mem hp
      exact h3 j p (List.getElem?_eq_some_iff.mp hj).1 hj hh
  generalize evS (gOf pg d) n1 in18 (σ18 P ps s5 s6 s7 s8 s9 s10 s11) (R18 a b ws L) = r at key ⊢
  cases r with
  | ok x R1 =>
    obtain ⟨r6, r7, L', h1, h2, h3⟩ := key
    subst h1 h2
    exact ⟨r6, r7, L', rfl, h3⟩
  | exc _ _ _ => exact False.elim key
  | no => exact False.elim key
end
/-- the j-th place ahead of the start, on the cycle -/
def back (o : List Nat) (i0 j : Nat) : Nat := (o[(i0 + (o.length - j)) % o.length]?).getD 0
theorem cyc_edge {o : List Nat} {k u v : Nat} (h1 : o[k]? = some u) (h2 : o[(k + 1) % o.length]? = some v) : (u, v) ∈ cyc o := by
  have hk := (List.getElem?_eq_some_iff.mp h1).1
  have e : (cyc o)[k]? = some (u, v) := by
    unfold cyc
    rw [List.getElem?_zip_eq_some]
    refine ⟨h1, ?_⟩
    by_cases h : k + 1 < o.length
    · rw [Nat.mod_eq_of_lt h] at h2
      rw [List.getElem?_append_left (by simp; omega), List.getElem?_drop, Nat.add_comm]
      exact h2
    · have hk2 : k + 1 = o.length := by omega
      rw [hk2, Nat.mod_self] at h2
      rw [List.getElem?_append_right (by simp; omega), List.length_drop, show k - (o.length - 1) = 0 by omega, List.getElem?_take_of_lt (by omega)]
      exact h2
  exact List.mem_of_getElem? e
theorem back_edge {o : List Nat} {i0 j : Nat} (hi : i0 < o.length) (hj : j + 1 ≤ o.length) : (back o i0 (j + 1), back o i0 j) ∈ cyc o := by
  have l1 := Nat.mod_lt (i0 + (o.length - (j + 1))) (show 0 < o.length by omega)
  have l2 := Nat.mod_lt (i0 + (o.length - j)) (show 0 < o.length by omega)
  have e1 : o[(i0 + (o.length - (j + 1))) % o.length]? = some (back o i0 (j + 1)) := by
    unfold back
    rw [List.getElem?_eq_getElem l1] <;> rfl
  have e2 : o[(i0 + (o.length - j)) % o.length]? = some (back o i0 j) := by
    unfold back
    rw [List.getElem?_eq_getElem l2] <;> rfl
  refine cyc_edge e1 ?_
  rw [Nat.mod_add_mod, show i0 + (o.length - (j + 1)) + 1 = i0 + (o.length - j) by omega]
  exact e2
theorem back_all {o : List Nat} {i0 v : Nat} (hi : i0 < o.length) (hv : v ∈ o) : ∃ j, j ≤ o.length ∧ back o i0 j = v := by
  obtain ⟨k, hk⟩ := List.getElem?_of_mem hv
  have hl := (List.getElem?_eq_some_iff.mp hk).1
  by_cases h : k ≤ i0
  · refine ⟨i0 - k, by omega, ?_⟩
    unfold back
    rw [show i0 + (o.length - (i0 - k)) = k + o.length by omega, Nat.add_mod_right, Nat.mod_eq_of_lt hl, hk] <;> rfl
  · refine ⟨i0 + o.length - k, by omega, ?_⟩
    unfold back
    rw [show i0 + (o.length - (i0 + o.length - k)) = k by omega, Nat.mod_eq_of_lt hl, hk] <;> rfl
theorem back_0 {o : List Nat} {i0 v : Nat} (h : o[i0]? = some v) : back o i0 0 = v := by
  have hl := (List.getElem?_eq_some_iff.mp h).1
  unfold back
  rw [Nat.sub_zero, Nat.add_mod_right, Nat.mod_eq_of_lt hl, h] <;> rfl
section
variable {d n1 P : Nat} {a b : Int} {ws : List Nat} {ps : List (Nat × Nat)} {s5 s6 s7 s8 s9 s10 s11 : Option TV} {L : List (Nat × Nat)}
/-- all levels -/
theorem out_loop {v0 : Nat} (hc : Close P ps) (hv : v0 < P) (h : Lv ps v0 0 L) :
    ∃ (r5 r6 r7 : Option TV) (L' : List (Nat × Nat)), evS (gOf pg d) n1 out18 (σ18 P ps s5 s6 s7 s8 s9 s10 s11) (R18 a b ws L) = .ok (.nx, σ18 P ps r5 r6 r7 s8 s9 s10 s11) (R18 a b ws L') ∧ Lv ps v0 32 L' ∧ (∀ u, u < P → has L' u) := by
  obtain ⟨o, ho1, ho2, ho3⟩ := hc.cy
  have hP := hc.le
  obtain ⟨_, hpl⟩ := hc.len
  obtain ⟨i0, hi0⟩ := List.getElem?_of_mem (ho2 v0 hv)
  have hil := (List.getElem?_eq_some_iff.mp hi0).1
  have key : (evS (gOf pg d) n1 out18 (σ18 P ps s5 s6 s7 s8 s9 s10 s11) (R18 a b ws L)).wp fun r R' =>
      ∃ (r5 r6 r7 : Option TV) (L' : List (Nat × Nat)), r = (.nx, σ18 P ps r5 r6 r7 s8 s9 s10 s11) ∧ R' = R18 a b ws L' ∧ Lv ps v0 32 L' ∧ (∀ u, u < P → has L' u) := by
    rw [evS_for, ev_rng (n := P) (R1 := R18 a b ws L) (by omega) (by rw [eE_var] <;> rfl), Rz.bind_ok]
    refine for_wp P (by show P < 1000000; omega) (fun i σ R' => ∃ (r5 r6 r7 : Option TV) (L' : List (Nat × Nat)), σ = σ18 P ps r5 r6 r7 s8 s9 s10 s11 ∧ R' = R18 a b ws L' ∧ Lv ps v0 (8 * i) L' ∧ (∀ j, j ≤ i → j ≤ P → has L' (back o i0 j))) ⟨s5, s6, s7, L, rfl, rfl, h, fun j hj _ => ?_⟩ ?_ ?_
    · have : j = 0 := by omega
      subst this
      rw [back_0 hi0]
      unfold has
      rw [h.st] <;> rfl
    · rintro i σ R1 hi ⟨r5, r6, r7, L1, rfl, rfl, h1, h2⟩
      have hl := in_loop (d := d) (n1 := n1) (P := P) (a := a) (b := b) (ws := ws) (s5 := some (ti i)) (s6 := r6) (s7 := r7) (s8 := s8) (s9 := s9) (s10 := s10) (s11 := s11) (by omega) h1 (by omega)
      refine hl.elim fun q6 hl => hl.elim fun q7 hl => hl.elim fun L2 hl => ?_
      obtain ⟨e, h3, h4, h5⟩ := hl
      unfold forTurn
      have hat : Wk.at (.rng 0 P) i (R18 a b ws L1) = some (some (ti i)) := by simp [hi]
      rw [hat]
      show ((evT (gOf pg d) n1 (.name 5) (ti i) _ (R18 a b ws L1)).bind _).wp _
      rw [eT_name, Rz.bind_ok]
      show ((evSs (gOf pg d) n1 (.cons in18 .nil) (σ18 P ps (some (ti i)) r6 r7 s8 s9 s10 s11) (R18 a b ws L1)).bind _).wp _
      rw [nx_cons e, eSs_nil, Rz.bind_ok, wp_ok]
      refine ⟨_, _, _, L2, rfl, rfl, h3.mono (by omega), fun j hj hjP => ?_⟩
      by_cases hji : j ≤ i
      · exact h4 _ (h2 j hji hjP)
      · have : j = i + 1 := by omega
        subst this
        exact h5 _ (ho3 _ (back_edge (by omega) (by omega))) (h2 i (Nat.le_refl _) (by omega))
    · rintro σ R1 ⟨r5, r6, r7, L1, rfl, rfl, h1, h2⟩
      unfold forTurn
      have hat : Wk.at (.rng 0 P) P (R18 a b ws L1) = some none := by simp
      rw [hat]
      refine ⟨rfl, r5, r6, r7, L1, rfl, rfl, h1.mono (by omega), fun u hu => ?_⟩
      obtain ⟨j, hj, e⟩ := back_all hil (ho2 u hu)
      rw [← e]
      exact h2 j (by omega) (by omega)
  generalize evS (gOf pg d) n1 out18 (σ18 P ps s5 s6 s7 s8 s9 s10 s11) (R18 a b ws L) = r at key ⊢
  cases r with
  | ok x R1 =>
    obtain ⟨r5, r6, r7, L', h1, h2, h3⟩ := key
    subst h1 h2
    exact ⟨r5, r6, r7, L', rfl, h3⟩
  | exc _ _ _ => exact False.elim key
  | no => exact False.elim key
end
end K63

/-! K64n: _law_tour. -/
namespace K63
open Pv
/-- is the i-th tie one that leads home -/
def bst (L : List (Nat × Nat)) (ps : List (Nat × Nat)) (h n : Nat) (i : Nat) : Bool := match ps[i]? with
  | some p => decide (p.1 = h) && decide ((lvl L p.2).getD 0 < n)
  | none => false
def bests (L : List (Nat × Nat)) (ps : List (Nat × Nat)) (h n : Nat) : List Nat := (List.range ps.length).filter (bst L ps h n)
theorem bests_map (L : List (Nat × Nat)) (ps : List (Nat × Nat)) (h n : Nat) : (List.range ps.length).filterMap (fun i => if bst L ps h n i = true then some (ti i) else none) = tis (bests L ps h n) := by
  unfold bests
  generalize List.range ps.length = l
  induction l with
  | nil => rfl
  | cons x l ih =>
    rw [List.filterMap_cons, ih, List.filter_cons]
    by_cases c : bst L ps h n x = true
    · simp [c]
    · simp [c]
abbrev cmp18 : Ex := .comp false (.var 10) (.tup (.cons (.name 10) (.cons (.name 11) (.nil)))) (.enum (.var 2)) (.and (.cmp .Eq (.sub (.var 11) (.cst (.int 0))) (.var 8)) (.cmp .Lt (.sub (.var 4) (.sub (.var 11) (.cst (.int 1)))) (.sub (.var 4) (.var 8)))) [10, 11]
abbrev end18 : Ex := .sub (.sub (.var 2) (.sub (.var 3) (.neg (.cst (.int 1))))) (.cst (.int 1))
abbrev beg18 : Ex := .sub (.sub (.var 2) (.sub (.var 3) (.cst (.int 0)))) (.cst (.int 0))
section
variable {d n1 P : Nat} {a b : Int} {ws : List Nat} {ps : List (Nat × Nat)} {s5 s6 s7 s8 s9 s10 s11 : Option TV} {L : List (Nat × Nat)}
theorem ev_end {R : Rs} {z : Nat} {q : Nat × Nat} (hR : R[1]? = some (rl ws)) (hz : ws[ws.length - 1]? = some z) (hq : ps[z]? = some q) {σ : Slots} (h2 : σ[2]? = some (some (.lst (ties ps)))) (h3 : σ[3]? = some (some (.root 1))) : evE (gOf pg d) n1 end18 σ R = .ok (ti q.2) R := by
  have hwl := (List.getElem?_eq_some_iff.mp hz).1
  have hlast : L2.atI (tis ws) (-1) = some (ti z) := by
    rw [atI_last (n := ws.length - 1) (by simp; omega)]
    simp [hz]
  have hroot : ixV R (.root 1) (.int (-1)) = some (ti z) := by rw [ixV_root _ hR]; exact hlast
  have hps : L2.atI (ties ps) (z : Int) = some (tie q) := ix_of (ties_at hq)
  have t1 : ∀ x y : TV, L2.atI [x, y] 1 = some y := fun _ _ => rfl
  simp [h2, h3, hroot, hps, t1]
theorem ev_beg {R : Rs} {z : Nat} {q : Nat × Nat} (hR : R[1]? = some (rl ws)) (hz : ws[0]? = some z) (hq : ps[z]? = some q) {σ : Slots} (h2 : σ[2]? = some (some (.lst (ties ps)))) (h3 : σ[3]? = some (some (.root 1))) : evE (gOf pg d) n1 beg18 σ R = .ok (ti q.1) R := by
  have hroot : ixV R (.root 1) (.int 0) = some (ti z) := by
    rw [ixV_root _ hR]
    exact ix_of (i := 0) (by simp [hz])
  have hps : L2.atI (ties ps) (z : Int) = some (tie q) := ix_of (ties_at hq)
  have t0 : ∀ x y : TV, L2.atI [x, y] 0 = some x := fun _ _ => rfl
  simp [h2, h3, hroot, hps, t0]
theorem best_comp {h n : Nat} (hl : ps.length ≤ 1000) (hh : lvl L h = some n) (hall : ∀ p ∈ ps, has L p.2) :
    evE (gOf pg d) n1 cmp18 (σ18 P ps s5 s6 s7 (some (ti h)) s9 s10 s11) (R18 a b ws L) = .ok (.lst (tis (bests L ps h n))) (R18 a b ws L) := by
  have hc := ev_comp (G := gOf pg d) (n0 := n1) (ie := .var 10) (iif := .and (.cmp .Eq (.sub (.var 11) (.cst (.int 0))) (.var 8)) (.cmp .Lt (.sub (.var 4) (.sub (.var 11) (.cst (.int 1)))) (.sub (.var 4) (.var 8)))) (t := .tup (.cons (.name 10) (.cons (.name 11) .nil))) (it := .enum (.var 2)) (own := [10, 11]) (r := false)
    (σ := σ18 P ps s5 s6 s7 (some (ti h)) s9 s10 s11) (R := R18 a b ws L) (R1 := R18 a b ws L) (w := .enum (.lst (ties ps))) (by simp) ps.length (fun i => if bst L ps h n i = true then some (ti i) else none) (by omega)
    (fun i hi => by
      obtain ⟨q, hq⟩ : ∃ q, ps[i]? = some q := ⟨_, List.getElem?_eq_getElem hi⟩
      obtain ⟨m, hm⟩ := Option.isSome_iff_exists.mp (hall q (List.mem_of_getElem? hq))
      have x1 := ix_dk (a := a) (b := b) (ws := ws) hh
      have x2 := ix_dk (a := a) (b := b) (ws := ws) hm
      rw [turn_at (v := .tup [ti i, tie q]) (by simp [hq])]
      have t0 : ∀ x y : TV, L2.atI [x, y] 0 = some x := fun _ _ => rfl
      have t1 : ∀ x y : TV, L2.atI [x, y] 1 = some y := fun _ _ => rfl
      have hb : bst L ps h n i = (decide (q.1 = h) && decide (m < n)) := by
        unfold bst
        rw [hq]
        simp [hm]
      rw [hb]
      by_cases c : q.1 = h
      · have c2 : ((q.1 : Int) = (h : Int)) := by omega
        by_cases e : m < n
        · simp [evB, wipeT, Tgs.len, t0, t1, c, x1, x2, e]
        · simp [evB, wipeT, Tgs.len, t0, t1, c, x1, x2, e]
      · have c2 : ¬ ((q.1 : Int) = (h : Int)) := by omega
        simp [evB, wipeT, Tgs.len, t0, t1, c, c2])
    (turn_end (by simp))
  rw [bests_map] at hc
  exact hc
theorem bests_spec {h n i : Nat} (hi : i ∈ bests L ps h n) : ∃ q, ps[i]? = some q ∧ q.1 = h ∧ (lvl L q.2).getD 0 < n := by
  unfold bests at hi
  rw [List.mem_filter] at hi
  have h2 := hi.2
  unfold bst at h2
  cases c : ps[i]? with
  | none => rw [c] at h2; cases h2
  | some p =>
    rw [c] at h2
    simp at h2
    exact ⟨p, rfl, h2.1, h2.2⟩
theorem bests_ne {h n m : Nat} {p : Nat × Nat} (hp : p ∈ ps) (h1 : p.1 = h) (hm : lvl L p.2 = some m) (hn : m < n) : ∃ i r, bests L ps h n = i :: r := by
  obtain ⟨i, hi⟩ := List.getElem?_of_mem hp
  have hl := (List.getElem?_eq_some_iff.mp hi).1
  have : i ∈ bests L ps h n := by
    unfold bests
    rw [List.mem_filter]
    refine ⟨List.mem_range.mpr hl, ?_⟩
    unfold bst
    rw [hi]
    simp [h1, hm, hn]
  cases c : bests L ps h n with
  | nil => rw [c] at this; cases this
  | cons i r => exact ⟨i, r, rfl⟩
abbrev b18 : Sms := .cons (.asg (.name 8) end18) (.cons (.asg (.name 9) cmp18) (.cons (.expr (.mth .append false (.var 3) (.cons (.sub (.var 9) (.cst (.int 0))) (.nil)))) (.nil)))
theorem body18 {z n : Nat} {q : Nat × Nat} {i : Nat} {r : List Nat} (hl : ps.length ≤ 1000) (hwl : ws.length ≤ 1000) (hz : ws[ws.length - 1]? = some z) (hq : ps[z]? = some q) (hh : lvl L q.2 = some n) (hall : ∀ p ∈ ps, has L p.2) (hb : bests L ps q.2 n = i :: r) :
    evSs (gOf pg d) n1 b18 (σ18 P ps s5 s6 s7 s8 s9 s10 s11) (R18 a b ws L) = .ok (.nx, σ18 P ps s5 s6 s7 (some (ti q.2)) (some (.lst (tis (i :: r)))) s10 s11) (R18 a b (ws ++ [i]) L) := by
  have h1 : evS (gOf pg d) n1 (.asg (.name 8) end18) (σ18 P ps s5 s6 s7 s8 s9 s10 s11) (R18 a b ws L) = .ok (.nx, σ18 P ps s5 s6 s7 (some (ti q.2)) s9 s10 s11) (R18 a b ws L) := by
    exact asg_ (ev_end (ws := ws) rfl hz hq rfl rfl)
  have h2 : evS (gOf pg d) n1 (.asg (.name 9) cmp18) (σ18 P ps s5 s6 s7 (some (ti q.2)) s9 s10 s11) (R18 a b ws L) = .ok (.nx, σ18 P ps s5 s6 s7 (some (ti q.2)) (some (.lst (tis (i :: r)))) s10 s11) (R18 a b ws L) := by
    have e := best_comp (d := d) (n1 := n1) (P := P) (a := a) (b := b) (ws := ws) (s5 := s5) (s6 := s6) (s7 := s7) (s9 := s9) (s10 := s10) (s11 := s11) hl hh hall
    rw [hb] at e
    exact asg_ e
  have e3 : evE (gOf pg d) n1 (.sub (.var 9) (.cst (.int 0))) (σ18 P ps s5 s6 s7 (some (ti q.2)) (some (.lst (tis (i :: r)))) s10 s11) (R18 a b ws L) = .ok (ti i) (R18 a b ws L) := by
    exact sub_ (v_ rfl) eE_cst (ix_of (i := 0) rfl)
  have h3 : evS (gOf pg d) n1 (.expr (.mth .append false (.var 3) (.cons (.sub (.var 9) (.cst (.int 0))) (.nil)))) (σ18 P ps s5 s6 s7 (some (ti q.2)) (some (.lst (tis (i :: r)))) s10 s11) (R18 a b ws L) = .ok (.nx, σ18 P ps s5 s6 s7 (some (ti q.2)) (some (.lst (tis (i :: r)))) s10 s11) (R18 a b (ws ++ [i]) L) := by
    have hok : mtOk .append (.root 1) (R18 a b ws L) = true := rfl
    have hap := app_root (n := n1) (k := 1) (xs := tis ws) (i := i) (R := R18 a b ws L) rfl (by simp; omega)
    have e : tis ws ++ [ti i] = tis (ws ++ [i]) := by simp
    rw [e] at hap
    exact expr_ (mth_ (v_ rfl) hok (es1 e3) hap)
  rw [nx_cons h1, nx_cons h2, nx_cons h3, eSs_nil]
theorem cond18 {z z0 : Nat} {q q0 : Nat × Nat} (hz : ws[ws.length - 1]? = some z) (hq : ps[z]? = some q) (hz0 : ws[0]? = some z0) (hq0 : ps[z0]? = some q0) :
    evE (gOf pg d) n1 (.cmp .NotEq end18 beg18) (σ18 P ps s5 s6 s7 s8 s9 s10 s11) (R18 a b ws L) = .ok (.bl (!decide (q.2 = q0.1))) (R18 a b ws L) := by
  exact cmp_ (ev_end (ws := ws) rfl hz hq rfl rfl) (ev_beg (ws := ws) rfl hz0 hq0 rfl rfl) (by rw [cmp_ne, eqT_int, ti_inj] <;> rfl)
theorem home18 {t z0 : Nat} {q0 : Nat × Nat} (hl : ps.length ≤ 1000) (hlv : Lv ps q0.1 t L) (ht : t ≤ 100) (hall : ∀ p ∈ ps, has L p.2) (hw : Walk ps ws) (hwl : ws.length ≤ 100) (hz0 : ws[0]? = some z0) (hq0 : ps[z0]? = some q0) :
    ∃ (r8 r9 : Option TV) (S : List Nat), evS (gOf pg d) n1 (.whl (.cmp .NotEq end18 beg18) b18) (σ18 P ps s5 s6 s7 s8 s9 s10 s11) (R18 a b ws L) = .ok (.nx, σ18 P ps s5 s6 s7 r8 r9 s10 s11) (R18 a b S L) ∧ Walk ps S ∧ Round ps S ∧ S.length ≤ 200 := by
  have key : (evS (gOf pg d) n1 (.whl (.cmp .NotEq end18 beg18) b18) (σ18 P ps s5 s6 s7 s8 s9 s10 s11) (R18 a b ws L)).wp fun r R' =>
      ∃ (r8 r9 : Option TV) (S : List Nat), r = (.nx, σ18 P ps s5 s6 s7 r8 r9 s10 s11) ∧ R' = R18 a b S L ∧ Walk ps S ∧ Round ps S ∧ S.length ≤ 200 := by
    rw [evS_whl]
    obtain ⟨z1, q1, hz1, hq1, hqm1⟩ := hw.last
    obtain ⟨n1', hn1⟩ := Option.isSome_iff_exists.mp (hall q1 hqm1)
    have hnt := hlv.hi _ _ hn1
    refine loop_wp (fun m i σ R' => ∃ (r8 r9 : Option TV) (S : List Nat) (z : Nat) (q : Nat × Nat), σ = σ18 P ps s5 s6 s7 r8 r9 s10 s11 ∧ R' = R18 a b S L ∧ Walk ps S ∧ S[0]? = some z0 ∧ S[S.length - 1]? = some z ∧ ps[z]? = some q ∧ lvl L q.2 = some m ∧ S.length + m ≤ 200) ?_ W0 n1' 0 _ _ (by show n1' < 1000000; omega) ⟨s8, s9, ws, z1, q1, rfl, rfl, hw, hz0, hz1, hq1, hn1, by omega⟩
    rintro m i σ R1 ⟨r8, r9, S, z, q, rfl, rfl, hS, hS0, hz, hq, hm, hSl⟩
    unfold whlTurn
    rw [cond18 hz hq hS0 hq0, Rz.bind_ok]
    by_cases he : q.2 = q0.1
    · rw [decide_eq_true he]
      exact ⟨r8, r9, S, rfl, rfl, hS, ⟨hS.jn, z0, z, q0, q, hS0, hz, hq0, hq, he.symm⟩, by omega⟩
    · rw [decide_eq_false he]
      obtain ⟨p, hp, hp1, m', hm', hlt⟩ := hlv.dn _ _ hm he
      obtain ⟨x, r, hb⟩ := bests_ne hp hp1 hm' hlt
      obtain ⟨q', hq', hq1', hlt'⟩ := bests_spec (i := x) (by rw [hb]; exact List.mem_cons_self)
      obtain ⟨m2, hm2⟩ := Option.isSome_iff_exists.mp (hall q' (List.mem_of_getElem? hq'))
      rw [hm2] at hlt'
      have hlt' : m2 < m := hlt'
      show ((evSs (gOf pg d) n1 b18 _ _).bind _).wp _
      rw [body18 hl (by omega) hz hq hm hall hb, Rz.bind_ok, wp_ok]
      have hx : x ∈ nexts ps q.2 := by
        unfold nexts
        rw [List.mem_filter]
        exact ⟨List.mem_range.mpr (List.getElem?_eq_some_iff.mp hq').1, by simp [hq', hq1']⟩
      have hne := List.length_pos_iff.mpr hS.ne
      refine ⟨m2, hlt', _, _, S ++ [x], x, q', rfl, rfl, hS.snoc hz hq hx, ?_, ?_, hq', hm2, ?_⟩
      · rw [List.getElem?_append_left hne]; exact hS0
      · rw [List.length_append, List.length_singleton, Nat.add_sub_cancel, List.getElem?_append_right (Nat.le_refl _), Nat.sub_self] <;> rfl
      · rw [List.length_append, List.length_singleton]; omega
  generalize evS (gOf pg d) n1 (.whl (.cmp .NotEq end18 beg18) b18) (σ18 P ps s5 s6 s7 s8 s9 s10 s11) (R18 a b ws L) = r at key ⊢
  cases r with
  | ok x R1 =>
    obtain ⟨r8, r9, S, h1, h2, h3⟩ := key
    subst h1 h2
    exact ⟨r8, r9, S, rfl, h3⟩
  | exc _ _ _ => exact False.elim key
  | no => exact False.elim key
end
theorem Close.outs {P : Nat} {ps : List (Nat × Nat)} (h : Close P ps) : Outs ps := by
  obtain ⟨o, _, h2, h3⟩ := h.cy
  exact outs_of h3 h2 fun p hp => (h.lt p hp).2
theorem pot1 {R : Rs} (h : Pot R 0) (hl : R.length = 1) : ∃ a b : Int, R = [pa a b] ∧ 0 ≤ a := by
  obtain ⟨a, b, e, ha⟩ := h
  match R, hl with
  | [x], _ =>
    cases e
    exact ⟨a, b, rfl, ha⟩
theorem lvl_one (v u : Nat) : lvl [(v, 0)] u = if v = u then some 0 else none := by
  unfold lvl
  by_cases h : v = u
  · rw [List.find?_cons_of_pos (by simpa using h), if_pos h] <;> rfl
  · rw [List.find?_cons_of_neg (by simpa using h), if_neg h] <;> rfl
theorem lv_start (ps : List (Nat × Nat)) (v : Nat) : Lv ps v 0 [(v, 0)] where
  st := by rw [lvl_one, if_pos rfl]
  dn := fun u n e hv => by
    rw [lvl_one, if_neg (fun c => hv c.symm)] at e
    cases e
  hi := fun u n e => by
    rw [lvl_one] at e
    by_cases hv : v = u
    · rw [if_pos hv] at e
      cases e
      exact Nat.le_refl _
    · rw [if_neg hv] at e
      cases e
  len := by simp
theorem f18 {d n0 P : Nat} {a b : Int} {ps : List (Nat × Nat)} (ha : 0 ≤ a) (hc : Close P ps) : ∃ (S : List Nat) (a' b' : Int), callD pg (d + 3) n0 18 [.root 0, ti P, .lst (ties ps)] [pa a b] = .ok (.lst (tis S)) [pa a' b'] ∧ 0 ≤ a' ∧ Walk ps S ∧ Round ps S ∧ S.length ≤ 200 := by
  obtain ⟨hl0, hl1⟩ := hc.len
  have h0 := g14 (d := d + 1) (n0 := 1) (e := .cst (.int 9)) (σ := [some (.root 0), some (ti P), some (.lst (ties ps)), none, none, none, none, none, none, none, none, none]) (a := a) (b := b) (m := 9) (S := []) (by rw [eE_cst]) rfl ha (by omega) (by omega)
  refine h0.elim fun x h0 => h0.elim fun a1 h0 => h0.elim fun b1 h0 => ?_
  obtain ⟨e0, hx, ha1⟩ := h0
  have h1 := f16 (d := d) (n0 := 1) (ps := ps) (many := x + 1) (R := [pa a1 b1]) ⟨a1, b1, rfl, ha1⟩ hl0 (by omega) (by omega) hc.outs
  refine h1.elim fun ws h1 => h1.elim fun R' h1 => ?_
  obtain ⟨e1, hR1, hp1, hw, hwl⟩ := h1
  refine (pot1 hp1 (hR1.trans rfl)).elim fun a2 h2 => h2.elim fun b2 h2 => ?_
  obtain ⟨hR2, ha2⟩ := h2
  subst hR2
  obtain ⟨z0, hz0⟩ : ∃ z0, ws[0]? = some z0 := ⟨_, List.getElem?_eq_getElem (List.length_pos_iff.mpr hw.ne)⟩
  have hzl := hw.lt z0 (List.mem_of_getElem? hz0)
  obtain ⟨q0, hq0⟩ : ∃ q0, ps[z0]? = some q0 := ⟨_, List.getElem?_eq_getElem hzl⟩
  have s0 : evS (gOf pg (d + 2)) 1 (.asg (.name 3) (.call 16 (.cons (.var 0) (.cons (.var 2) (.cons (.bin .Add false (.cst (.int 1)) (.call 14 (.cons (.var 0) (.cons (.cst (.int 9)) (.nil))))) (.nil)))))) [some (.root 0), some (ti P), some (.lst (ties ps)), none, none, none, none, none, none, none, none, none] [pa a b] = .ok (.nx, [some (.root 0), some (ti P), some (.lst (ties ps)), some (.root 1), none, none, none, none, none, none, none, none]) [pa a2 b2, rl ws] := by
    have ee : evE (gOf pg (d + 2)) 1 (.bin .Add false (.cst (.int 1)) (.call 14 (.cons (.var 0) (.cons (.cst (.int 9)) (.nil))))) [some (.root 0), some (ti P), some (.lst (ties ps)), none, none, none, none, none, none, none, none, none] [pa a b] = .ok (ti (x + 1)) [pa a1 b1] := by
      rw [eE_bin, eE_cst, Rz.bind_ok, e0, Rz.bind_ok]
      show Rz.ok (TV.int (1 + (x : Int))) _ = _
      have : (1 + (x : Int)) = ((x + 1 : Nat) : Int) := by omega
      rw [this]
    exact asg_ (call_ (es3 (v_ rfl) (v_ rfl) ee) e1)
  have hlv : Lv ps q0.1 0 [(q0.1, 0)] := lv_start ps q0.1
  have s1 : evS (gOf pg (d + 2)) 1 (.asg (.name 4) (.dctp true (.cons beg18 (.cons (.cst (.int 0)) (.nil))))) [some (.root 0), some (ti P), some (.lst (ties ps)), some (.root 1), none, none, none, none, none, none, none, none] [pa a2 b2, rl ws] = .ok (.nx, σ18 P ps none none none none none none none) (R18 a2 b2 ws [(q0.1, 0)]) := by
    rw [eS_asg, eE_dctp, es_cons, ev_beg (ws := ws) rfl hz0 hq0 rfl rfl, Rz.bind_ok, es_cons, eE_cst, Rz.bind_ok, es_nil, Rz.bind_ok, Rz.bind_ok] <;> rfl
  have hv0 := (hc.lt q0 (List.mem_of_getElem? hq0)).1
  have s2 := out_loop (d := d + 2) (n1 := 1) (P := P) (a := a2) (b := b2) (ws := ws) (s5 := none) (s6 := none) (s7 := none) (s8 := none) (s9 := none) (s10 := none) (s11 := none) hc hv0 hlv
  refine s2.elim fun r5 s2 => s2.elim fun r6 s2 => s2.elim fun r7 s2 => s2.elim fun L s2 => ?_
  obtain ⟨s2, hL1, hL2⟩ := s2
  have s3 := home18 (d := d + 2) (n1 := 1) (P := P) (a := a2) (b := b2) (s5 := r5) (s6 := r6) (s7 := r7) (s8 := none) (s9 := none) (s10 := none) (s11 := none) (by omega) hL1 (by omega) (fun p hp => hL2 _ (hc.lt p hp).2) hw (by omega) hz0 hq0
  refine s3.elim fun r8 s3 => s3.elim fun r9 s3 => s3.elim fun S s3 => ?_
  obtain ⟨s3, hS1, hS2, hS3⟩ := s3
  refine ⟨S, a2, b2, ?_, ha2, hS1, hS2, hS3⟩
  rw [run_eq (F := fn_18) rfl, run_tree bd_18 [some (.root 0), some (ti P), some (.lst (ties ps)), none, none, none, none, none, none, none, none, none] rfl rfl rfl rfl]
  show ((evSs (gOf pg (d + 2)) 1 bd_18 _ _).bind _) = _
  unfold bd_18
  rw [nx_cons s0, nx_cons s1]
  show ((evSs (gOf pg (d + 2)) 1 (.cons out18 (.cons (.whl (.cmp .NotEq end18 beg18) b18) (.cons (.ret (.var 3)) .nil))) _ _).bind _) = _
  rw [nx_cons s2, nx_cons s3, eSs_cons, eS_ret, eE_var]
  show Pv.settle 1 (.root 1) (R18 a2 b2 S L) = _
  have hs : sub (rootT (R18 a2 b2 S L) 1 (R18 a2 b2 S L).length deepN) (.root 1) = some (.lst (tis S)) := by
    show rootT (R18 a2 b2 S L) 1 3 (3 + 1) 1 = _
    rw [rootT_at (o := rl S) (by omega) (by omega) rfl]
    show ((subs _ (tis S)).map RO.lst).map treeOf = _
    rw [subs_tis] <;> rfl
  show ofO (sub (rootT (R18 a2 b2 S L) 1 (R18 a2 b2 S L).length deepN) (.root 1)) _ = _
  rw [hs] <;> rfl
end K63

/-! K64o: stretches of a round. -/
namespace K63
open Pv
/-- joined round and round -/
structure Cy (ps : List (Nat × Nat)) (S : List Nat) : Prop where
  ne : S ≠ []
  lt : ∀ a ∈ S, a < ps.length
  jn : ∀ i, ∃ a b p q, S[i % S.length]? = some a ∧ S[(i + 1) % S.length]? = some b ∧ ps[a]? = some p ∧ ps[b]? = some q ∧ p.2 = q.1
theorem cy_of {ps : List (Nat × Nat)} {S : List Nat} (hw : Walk ps S) (hr : Round ps S) : Cy ps S where
  ne := hw.ne
  lt := hw.lt
  jn := fun i => by
    have hn := List.length_pos_iff.mpr hw.ne
    have hl := Nat.mod_lt i hn
    obtain ⟨hj, a, b, p, q, h1, h2, h3, h4, h5⟩ := hr
    by_cases h : i % S.length + 1 < S.length
    · have e : (i + 1) % S.length = i % S.length + 1 := by
        rw [← Nat.mod_add_mod, Nat.mod_eq_of_lt h]
      have g1 : S[i % S.length]? = some S[i % S.length] := List.getElem?_eq_getElem hl
      have g2 : S[i % S.length + 1]? = some S[i % S.length + 1] := List.getElem?_eq_getElem h
      obtain ⟨p', q', e1, e2, e3⟩ := hj _ _ _ g1 g2
      rw [e]
      exact ⟨_, _, p', q', g1, g2, e1, e2, e3⟩
    · have e0 : i % S.length = S.length - 1 := by omega
      have e : (i + 1) % S.length = 0 := by
        rw [← Nat.mod_add_mod, e0, Nat.sub_add_cancel hn, Nat.mod_self]
      rw [e0, e]
      exact ⟨b, a, q, p, h2, h1, h4, h3, h5.symm⟩
theorem Cy.stretch {ps : List (Nat × Nat)} {S T : List Nat} {t : Nat} (h : Cy ps S) (hne : T ≠ []) (hT : ∀ i, i < T.length → T[i]? = S[(i + t) % S.length]?) : Walk ps T where
  ne := hne
  lt := fun a ha => by
    obtain ⟨i, hi⟩ := List.getElem?_of_mem ha
    have hl := (List.getElem?_eq_some_iff.mp hi).1
    rw [hT i hl] at hi
    exact h.lt a (List.mem_of_getElem? hi)
  jn := fun i a b ha hb => by
    have hl := (List.getElem?_eq_some_iff.mp hb).1
    rw [hT i (by omega)] at ha
    rw [hT (i + 1) hl] at hb
    obtain ⟨a', b', p, q, g1, g2, g3, g4, g5⟩ := h.jn (i + t)
    rw [g1] at ha
    rw [show i + 1 + t = i + t + 1 by omega, g2] at hb
    cases ha; cases hb
    exact ⟨p, q, g3, g4, g5⟩
theorem Cy.round {ps : List (Nat × Nat)} {S T : List Nat} {t : Nat} (h : Cy ps S) (hne : T ≠ []) (hT : ∀ i, i < T.length → T[i]? = S[(i + t) % S.length]?) (hm : T.length % S.length = 0) : Round ps T := by
  refine ⟨(h.stretch hne hT).jn, ?_⟩
  have hn := List.length_pos_iff.mpr hne
  obtain ⟨a, b, p, q, g1, g2, g3, g4, g5⟩ := h.jn (T.length - 1 + t)
  refine ⟨b, a, q, p, ?_, ?_, g4, g3, g5.symm⟩
  · rw [hT 0 hn, Nat.zero_add, ← g2]
    congr 1
    rw [show T.length - 1 + t + 1 = T.length + t by omega, Nat.add_mod, hm, Nat.zero_add, Nat.mod_mod]
  · rw [hT _ (by omega)]
    exact g1
theorem Cy.turned {ps : List (Nat × Nat)} {S : List Nat} {t : Nat} (h : Cy ps S) (ht : t < S.length) : Walk ps (S.drop t ++ S.take t) ∧ Round ps (S.drop t ++ S.take t) := by
  have hl : (S.drop t ++ S.take t).length = S.length := by simp; omega
  have hne : S.drop t ++ S.take t ≠ [] := List.length_pos_iff.mp (by omega)
  have hT : ∀ i, i < (S.drop t ++ S.take t).length → (S.drop t ++ S.take t)[i]? = S[(i + t) % S.length]? := fun i hi => by
    rw [hl] at hi
    by_cases c : i + t < S.length
    · rw [List.getElem?_append_left (by simp; omega), List.getElem?_drop, Nat.mod_eq_of_lt c, Nat.add_comm]
    · rw [List.getElem?_append_right (by simp; omega), List.length_drop, Nat.mod_eq_sub_mod (by omega), Nat.mod_eq_of_lt (by omega), List.getElem?_take_of_lt (by omega)]
      congr 1; omega
  exact ⟨h.stretch hne hT, h.round hne hT (by rw [hl, Nat.mod_self])⟩
theorem Cy.twice {ps : List (Nat × Nat)} {S : List Nat} (h : Cy ps S) : Walk ps (S ++ S) ∧ Round ps (S ++ S) := by
  have hn := List.length_pos_iff.mpr h.ne
  have hne : S ++ S ≠ [] := by simp [h.ne]
  have hT : ∀ i, i < (S ++ S).length → (S ++ S)[i]? = S[(i + 0) % S.length]? := fun i hi => by
    rw [List.length_append] at hi
    by_cases c : i < S.length
    · rw [List.getElem?_append_left c, Nat.add_zero, Nat.mod_eq_of_lt c]
    · rw [List.getElem?_append_right (by omega), Nat.add_zero, Nat.mod_eq_sub_mod (by omega), Nat.mod_eq_of_lt (by omega)]
  exact ⟨h.stretch hne hT, h.round hne hT (by rw [List.length_append, ← Nat.two_mul, Nat.mul_mod_left])⟩
/-- a stretch of n ties from t on, round and round -/
def str (S : List Nat) (t n : Nat) : List Nat := (List.range n).map fun i => (S[(t + i) % S.length]?).getD 0
theorem str_len (S : List Nat) (t n : Nat) : (str S t n).length = n := by simp [str]
theorem Cy.str {ps : List (Nat × Nat)} {S : List Nat} (h : Cy ps S) (t n : Nat) (hn : 0 < n) : Walk ps (str S t n) := by
  have hs := List.length_pos_iff.mpr h.ne
  refine h.stretch (t := t) (List.length_pos_iff.mp (by rw [str_len]; exact hn)) fun i hi => ?_
  rw [str_len] at hi
  have hl := Nat.mod_lt (i + t) hs
  unfold K63.str
  rw [List.getElem?_map, List.getElem?_range hi]
  show some ((S[(t + i) % S.length]?).getD 0) = _
  rw [Nat.add_comm t i, List.getElem?_eq_getElem hl] <;> rfl
/-- a draw in the text, the pot at any name -/
theorem g14v {d n0 j : Nat} {e : Ex} {σ : Slots} {a b m : Int} {S : Rs} (he : evE (gOf pg (d + 1)) n0 e σ (pa a b :: S) = .ok (.int m) (pa a b :: S)) (h0 : σ[j]? = some (some (.root 0))) (ha : 0 ≤ a) (hm : 0 < m) (hm2 : m < 1073741824) :
    ∃ (x : Nat) (a' b' : Int), evE (gOf pg (d + 1)) n0 (.call 14 (.cons (.var j) (.cons e .nil))) σ (pa a b :: S) = .ok (ti x) (pa a' b' :: S) ∧ (x : Int) < m ∧ 0 ≤ a' := by
  have h := f14c (d := d) (n0 := n0) (a := a) (b := b) (m := m) (S := S) ha hm hm2
  refine h.elim fun x h => h.elim fun a' h => h.elim fun b' h => ⟨x, a', b', ?_, h.2⟩
  exact call_ (es2 (v_ h0) he) h.1
end K63

/-! K64p: the law's turn. -/
namespace K63
open Pv
abbrev σ19 (v0 : TV) (P : Nat) (ps : List (Nat × Nat)) (fs : List (PySem.Str × TV)) (S : List Nat) (s6 s7 s8 s9 s10 s11 s12 s13 : Option TV) : Slots := [some v0, some (.root 0), some (ti P), some (.lst (ties ps)), some (.ins 0 fs), some (.lst (tis S)), s6, s7, s8, s9, s10, s11, s12, s13]
abbrev w0 : Sm := .asg (.name 8) (.call 16 (.cons (.var 1) (.cons (.var 3) (.cons (.bin .Add false (.cst (.int 1)) (.call 14 (.cons (.var 1) (.cons (.cst (.int 3)) (.nil))))) (.nil)))))
abbrev w1a : Sm := .asg (.tup (.cons (.name 9) (.cons (.name 10) (.nil)))) (.tup (.cons (.call 14 (.cons (.var 1) (.cons (.bi .len false (.cons (.var 5) (.nil))) (.nil)))) (.cons (.bin .Add false (.cst (.int 1)) (.call 14 (.cons (.var 1) (.cons (.cst (.int 12)) (.nil))))) (.nil))))
abbrev cmp19 : Ex := .comp false (.sub (.var 5) (.bin .Mod false (.bin .Add false (.var 9) (.var 13)) (.bi .len false (.cons (.var 5) (.nil))))) (.name 13) (.rng1 (.var 10)) (.cst (.bl true)) [13]
abbrev w1 : Sm := .ifs (.cmp .Lt (.var 7) (.cst (.int 4))) (.cons w1a (.cons (.asg (.name 8) cmp19) (.nil))) (.nil)
abbrev w2 : Sm := .par 11 12 (.call 17 (.cons (.var 5) (.cons (.var 8) (.nil)))) (.call 14 (.cons (.var 1) (.cons (.bi .len false (.cons (.var 5) (.nil))) (.nil))))
abbrev no19 : Sms := .cons (.ret (.cst (.bl false))) .nil
abbrev w3 : Sm := .ifs (.cmp .NotEq (.callk 12 .nil (.cons (.var 4) (.cons (.var 5) (.cons (.var 8) (.nil)))) [0, 1, 2]) (.var 11)) no19 .nil
abbrev w4 : Sm := .ifs (.cmp .NotEq (.call 12 (.cons (.var 4) (.cons (.bi .tuple false (.cons (.bin .Add false (.slc false (.var 5) (.some (.var 12)) (.none)) (.slc false (.var 5) (.none) (.some (.var 12)))) (.nil))) (.cons (.bi .tuple false (.cons (.var 8) (.nil))) (.nil))))) (.var 11)) no19 .nil
abbrev w5 : Sm := .ifs (.cmp .NotEq (.call 12 (.cons (.var 4) (.cons (.bin .Add false (.var 5) (.var 5)) (.cons (.var 8) (.nil))))) (.bin .Mult false (.cst (.int 2)) (.var 11))) no19 .nil
abbrev bdy19 : Sms := .cons w0 (.cons w1 (.cons w2 (.cons w3 (.cons w4 (.cons w5 .nil)))))
/-- the walk of a turn: a list, or a root behind the pot -/
def Wv (b : Kn) (W : List Nat) (T : Rs) : Prop := ∀ a c : Int, b.ok (tis W) (pa a c :: T)
theorem gcall (P : Pg) (d n i : Nat) (vs : List TV) (R : Rs) : (gOf P d).call n i vs R = callD P d n i vs R := rfl
theorem f17' {k n0 : Nat} {b : Kn} {S W : List Nat} {R : Rs} (hk1 : 1 ≤ k) (hk : b.ok (tis W) R) (hS : 0 < S.length) (hSl : S.length ≤ 100000) (hW : W.length ≤ 100000) : callD pg k n0 17 [.lst (tis S), sq b (tis W)] R = .ok (ti (times S W)) R := by
  obtain ⟨d, rfl⟩ : ∃ d, k = d + 1 := ⟨k - 1, by omega⟩
  exact f17 hk hS hSl hW
section
variable {d n1 P : Nat} {a b : Int} {v0 : TV} {ps : List (Nat × Nat)} {fs : List (PySem.Str × TV)} {S : List Nat} {T : Rs} {s6 s7 s8 s9 s10 s11 s12 s13 : Option TV}
theorem wa (ha : 0 ≤ a) (hc : Close P ps) : ∃ (W : List Nat) (a' b' : Int) (T' : Rs) (k : Nat), evS (gOf pg (d + 7)) n1 w0 (σ19 v0 P ps fs S s6 s7 s8 s9 s10 s11 s12 s13) (pa a b :: T) = .ok (.nx, σ19 v0 P ps fs S s6 s7 (some (.root k)) s9 s10 s11 s12 s13) (pa a' b' :: T') ∧ 0 ≤ a' ∧ Walk ps W ∧ W.length ≤ 20 ∧ Wv (.root k) W T' := by
  have h0 := g14v (d := d + 6) (n0 := n1) (j := 1) (e := .cst (.int 3)) (σ := σ19 v0 P ps fs S s6 s7 s8 s9 s10 s11 s12 s13) (a := a) (b := b) (m := 3) (S := T) (by rw [eE_cst]) rfl ha (by omega) (by omega)
  refine h0.elim fun x h0 => h0.elim fun a1 h0 => h0.elim fun b1 h0 => ?_
  obtain ⟨e0, hx, ha1⟩ := h0
  have h1 := f16 (d := d + 5) (n0 := n1) (ps := ps) (many := x + 1) (R := pa a1 b1 :: T) ⟨a1, b1, rfl, ha1⟩ hc.len.1 (by have := hc.len.2; omega) (by omega) hc.outs
  refine h1.elim fun W h1 => h1.elim fun R' h1 => ?_
  obtain ⟨e1, hR1, hp1, hw, hwl⟩ := h1
  obtain ⟨a2, b2, hq, ha2⟩ := hp1
  match R', hR1, hq, e1 with
  | x :: T', hR1, hq, e1 =>
    cases hq
    have ee : evE (gOf pg (d + 7)) n1 (.bin .Add false (.cst (.int 1)) (.call 14 (.cons (.var 1) (.cons (.cst (.int 3)) (.nil))))) (σ19 v0 P ps fs S s6 s7 s8 s9 s10 s11 s12 s13) (pa a b :: T) = .ok (ti (x + 1)) (pa a1 b1 :: T) := by
      refine bin_ eE_cst e0 ?_
      rw [add_int, show (1 + (x : Int)) = ((x + 1 : Nat) : Int) by omega]
    have hl : T'.length = T.length := by simpa using hR1
    refine ⟨W, a2, b2, T' ++ [rl W], (pa a1 b1 :: T).length, asg_ (call_ (es3 (v_ rfl) (v_ rfl) ee) e1), ha2, hw, by omega, fun a c => ?_⟩
    show (pa a c :: (T' ++ [rl W]))[T.length + 1]? = _
    rw [List.getElem?_cons_succ, List.getElem?_append_right (by omega), hl, Nat.sub_self] <;> rfl
theorem comp19 {t n : Nat} {R : Rs} (hS : 0 < S.length) (hn : n ≤ 1000) :
    evE (gOf pg (d + 7)) n1 cmp19 (σ19 v0 P ps fs S s6 s7 s8 (some (ti t)) (some (ti n)) s11 s12 s13) R = .ok (.lst (tis (str S t n))) R := by
  have hc := ev_map (G := gOf pg (d + 7)) (n0 := n1) (ie := .sub (.var 5) (.bin .Mod false (.bin .Add false (.var 9) (.var 13)) (.bi .len false (.cons (.var 5) (.nil))))) (iif := .cst (.bl true)) (t := .name 13) (it := .rng1 (.var 10)) (own := [13]) (r := false)
    (σ := σ19 v0 P ps fs S s6 s7 s8 (some (ti t)) (some (ti n)) s11 s12 s13) (R := R) (R1 := R) (w := .rng 0 n) (ev_rng (by omega) (v_ rfl)) n (fun i => ti ((S[(t + i) % S.length]?).getD 0)) (by omega)
    (fun i hi => by
      obtain ⟨x, hx, hx2⟩ := get_mod hS (t + i)
      rw [turn_at (v := ti i) (by simp [hi])]
      have hpos : (0 : Int) < (S.length : Int) := by omega
      simp [evB, wipeT, hS]
      rw [modc, hx2]
      simp [hx])
    (turn_end (by simp))
  have e : ((List.range n).map fun i => ti ((S[(t + i) % S.length]?).getD 0)) = tis (str S t n) := by
    unfold str tis
    rw [List.map_map] <;> rfl
  rw [e] at hc
  exact hc
theorem len5 {σ : Slots} {R : Rs} (h : σ[5]? = some (some (.lst (tis S)))) : evE (gOf pg (d + 7)) n1 (.bi .len false (.cons (.var 5) (.nil))) σ R = .ok (ti S.length) R := by
  refine bi_ (es1 (v_ h)) ?_
  rw [bi_lenL]; simp
theorem wb {i k : Nat} {W : List Nat} (ha : 0 ≤ a) (hS : 0 < S.length) (hS2 : S.length ≤ 1000) (hcy : Cy ps S) (hw : Walk ps W) (hwl : W.length ≤ 20) (hv : Wv (.root k) W T) :
    ∃ (bk : Kn) (W' : List Nat) (a' b' : Int) (r9 r10 : Option TV), evS (gOf pg (d + 7)) n1 w1 (σ19 v0 P ps fs S s6 (some (ti i)) (some (.root k)) s9 s10 s11 s12 s13) (pa a b :: T) = .ok (.nx, σ19 v0 P ps fs S s6 (some (ti i)) (some (sq bk (tis W'))) r9 r10 s11 s12 s13) (pa a' b' :: T) ∧ 0 ≤ a' ∧ Walk ps W' ∧ W'.length ≤ 20 ∧ Wv bk W' T := by
  have hcd : evE (gOf pg (d + 7)) n1 (.cmp .Lt (.var 7) (.cst (.int 4))) (σ19 v0 P ps fs S s6 (some (ti i)) (some (.root k)) s9 s10 s11 s12 s13) (pa a b :: T) = .ok (.bl (decide ((i : Int) < 4))) (pa a b :: T) := cmp_ (v_ rfl) eE_cst rfl
  by_cases h : (i : Int) < 4
  · rw [decide_eq_true h] at hcd
    have h0 := g14v (d := d + 6) (n0 := n1) (j := 1) (σ := σ19 v0 P ps fs S s6 (some (ti i)) (some (.root k)) s9 s10 s11 s12 s13) (a := a) (b := b) (m := (S.length : Int)) (S := T) (len5 rfl) rfl ha (by omega) (by omega)
    refine h0.elim fun x h0 => h0.elim fun a1 h0 => h0.elim fun b1 h0 => ?_
    obtain ⟨e0, hx, ha1⟩ := h0
    have h1 := g14v (d := d + 6) (n0 := n1) (j := 1) (e := .cst (.int 12)) (σ := σ19 v0 P ps fs S s6 (some (ti i)) (some (.root k)) s9 s10 s11 s12 s13) (a := a1) (b := b1) (m := 12) (S := T) (by rw [eE_cst]) rfl ha1 (by omega) (by omega)
    refine h1.elim fun y h1 => h1.elim fun a2 h1 => h1.elim fun b2 h1 => ?_
    obtain ⟨e1, hy, ha2⟩ := h1
    have ee : evE (gOf pg (d + 7)) n1 (.bin .Add false (.cst (.int 1)) (.call 14 (.cons (.var 1) (.cons (.cst (.int 12)) (.nil))))) (σ19 v0 P ps fs S s6 (some (ti i)) (some (.root k)) s9 s10 s11 s12 s13) (pa a1 b1 :: T) = .ok (ti (y + 1)) (pa a2 b2 :: T) := by
      refine bin_ eE_cst e1 ?_
      rw [add_int, show (1 + (y : Int)) = ((y + 1 : Nat) : Int) by omega]
    have et : evT (gOf pg (d + 7)) n1 (.tup (.cons (.name 9) (.cons (.name 10) (.nil)))) (.tup [ti x, ti (y + 1)]) (σ19 v0 P ps fs S s6 (some (ti i)) (some (.root k)) s9 s10 s11 s12 s13) (pa a2 b2 :: T) = .ok (σ19 v0 P ps fs S s6 (some (ti i)) (some (.root k)) (some (ti x)) (some (ti (y + 1))) s11 s12 s13) (pa a2 b2 :: T) := by
      rw [eT_tup]
      show guardR true (evTs _ _ _ _ _ (pa a2 b2 :: T)) = _
      rw [guardR_true, eTs_cons, eT_name, Rz.bind_ok, eTs_cons, eT_name, Rz.bind_ok, eTs_nil] <;> rfl
    refine ⟨.lst, str S x (y + 1), a2, b2, some (ti x), some (ti (y + 1)), ?_, ha2, hcy.str x (y + 1) (by omega), by rw [str_len]; omega, fun _ _ => trivial⟩
    rw [if_t hcd]
    exact nx_ (asgt_ (tup2 e0 ee) et) (nx_ (asg_ (comp19 hS (by omega))) nil_)
  · rw [decide_eq_false h] at hcd
    exact ⟨.root k, W, a, b, s9, s10, if_skip hcd, ha, hw, hwl, hv⟩
theorem wc {bk : Kn} {W : List Nat} (ha : 0 ≤ a) (hS : 0 < S.length) (hS2 : S.length ≤ 1000) (hwl : W.length ≤ 20) (hv : Wv bk W T) :
    ∃ (t : Nat) (a' b' : Int), evS (gOf pg (d + 7)) n1 w2 (σ19 v0 P ps fs S s6 s7 (some (sq bk (tis W))) s9 s10 s11 s12 s13) (pa a b :: T) = .ok (.nx, σ19 v0 P ps fs S s6 s7 (some (sq bk (tis W))) s9 s10 (some (ti (times S W))) (some (ti t)) s13) (pa a' b' :: T) ∧ 0 ≤ a' ∧ t < S.length := by
  have e0 : (gOf pg (d + 7)).call n1 17 [.lst (tis S), sq bk (tis W)] (pa a b :: T) = .ok (ti (times S W)) (pa a b :: T) := by
    rw [gcall]
    exact f17' (by omega) (hv a b) hS (by omega) (by omega)
  have h0 := g14v (d := d + 6) (n0 := n1) (j := 1) (σ := σ19 v0 P ps fs S s6 s7 (some (sq bk (tis W))) s9 s10 s11 s12 s13) (a := a) (b := b) (m := (S.length : Int)) (S := T) (len5 rfl) rfl ha (by omega) (by omega)
  refine h0.elim fun x h0 => h0.elim fun a1 h0 => h0.elim fun b1 h0 => ?_
  obtain ⟨e1, hx, ha1⟩ := h0
  exact ⟨x, a1, b1, par_ (call_ (es2 (v_ rfl) (v_ rfl)) e0) e1, ha1, by omega⟩
theorem cut_drop (xs : List TV) {t : Nat} (h : t ≤ xs.length) : cutA xs (some (t : Int)) none = xs.drop t := by
  unfold cutA
  have e1 : HT.sIx xs.length 0 (some (t : Int)) = t := by
    have : ¬ ((t : Int) < 0) := by omega
    simp [HT.sIx, this]; omega
  have e2 : HT.sIx xs.length xs.length none = xs.length := by simp [HT.sIx]
  rw [e1, e2, List.take_of_length_le]
  simp
theorem cut_take (xs : List TV) {t : Nat} (h : t ≤ xs.length) : cutA xs none (some (t : Int)) = xs.take t := by
  unfold cutA
  have e1 : HT.sIx xs.length 0 none = 0 := by simp [HT.sIx]
  have e2 : HT.sIx xs.length xs.length (some (t : Int)) = t := by
    have : ¬ ((t : Int) < 0) := by omega
    simp [HT.sIx, this]; omega
  rw [e1, e2]; simp
theorem ne_self (x : Nat) (R : Rs) : cmpV .NotEq (ti x) (ti x) R = some false := by
  rw [cmp_ne, eqT_int]; simp
theorem wd {bk : Kn} {W : List Nat} {t : Nat} (hcl : ∀ f, sub f (.ins 0 fs) = some (.ins 0 fs)) (hfs : fs.lookup ("own_ties" : PySem.Str) = some (.tup (ties ps))) (hcy : Cy ps S) (hSl : S.length ≤ 1000) (hSw : Walk ps S) (hSr : Round ps S) (hw : Walk ps W) (hwl : W.length ≤ 20) (hv : Wv bk W T) (ht : t < S.length) :
    evSs (gOf pg (d + 7)) n1 (.cons w3 (.cons w4 (.cons w5 .nil))) (σ19 v0 P ps fs S s6 s7 (some (sq bk (tis W))) s9 s10 (some (ti (times S W))) (some (ti t)) s13) (pa a b :: T) = .ok (.nx, σ19 v0 P ps fs S s6 s7 (some (sq bk (tis W))) s9 s10 (some (ti (times S W))) (some (ti t)) s13) (pa a b :: T) := by
  have h12 : ∀ (b1 b2 : Kn) (Z : List Nat), b1.ok (tis Z) (pa a b :: T) → b2.ok (tis W) (pa a b :: T) → Walk ps Z → Round ps Z → Z.length ≤ 2000 → (gOf pg (d + 7)).call n1 12 [.ins 0 fs, sq b1 (tis Z), sq b2 (tis W)] (pa a b :: T) = .ok (ti (times Z W)) (pa a b :: T) := fun b1 b2 Z k1 k2 z1 z2 z3 =>
    f12 (d := d + 1) (n0 := n1) k1 k2 hcl hfs z1.ne (by omega) z1.lt z2 hw.ne (by omega) hw.lt hw.jn
  have hts : t ≤ (tis S).length := by simp; omega
  have q3 : evS (gOf pg (d + 7)) n1 w3 (σ19 v0 P ps fs S s6 s7 (some (sq bk (tis W))) s9 s10 (some (ti (times S W))) (some (ti t)) s13) (pa a b :: T) = .ok (.nx, _) (pa a b :: T) :=
    if_skip (cmp_ (callk_ es0 (es3 (v_ rfl) (v_ rfl) (v_ rfl)) rfl (h12 .lst bk S trivial (hv a b) hSw hSr (by omega))) (v_ rfl) (ne_self _ _))
  have hturn := hcy.turned ht
  have e1 : evE (gOf pg (d + 7)) n1 (.slc false (.var 5) (.some (.var 12)) (.none)) (σ19 v0 P ps fs S s6 s7 (some (sq bk (tis W))) s9 s10 (some (ti (times S W))) (some (ti t)) s13) (pa a b :: T) = .ok (.lst (tis (S.drop t))) (pa a b :: T) := by
    rw [slc_ (v_ rfl) (o1_ (v_ rfl)) eO_none]
    show Rz.ok (TV.lst (cutA (tis S) (some (t : Int)) none)) _ = _
    rw [cut_drop _ hts, ← List.map_drop]
  have e2 : evE (gOf pg (d + 7)) n1 (.slc false (.var 5) (.none) (.some (.var 12))) (σ19 v0 P ps fs S s6 s7 (some (sq bk (tis W))) s9 s10 (some (ti (times S W))) (some (ti t)) s13) (pa a b :: T) = .ok (.lst (tis (S.take t))) (pa a b :: T) := by
    rw [slc_ (v_ rfl) eO_none (o1_ (v_ rfl))]
    show Rz.ok (TV.lst (cutA (tis S) none (some (t : Int)))) _ = _
    rw [cut_take _ hts, ← List.map_take]
  have e3 : evE (gOf pg (d + 7)) n1 (.bin .Add false (.slc false (.var 5) (.some (.var 12)) (.none)) (.slc false (.var 5) (.none) (.some (.var 12)))) (σ19 v0 P ps fs S s6 s7 (some (sq bk (tis W))) s9 s10 (some (ti (times S W))) (some (ti t)) s13) (pa a b :: T) = .ok (.lst (tis (S.drop t ++ S.take t))) (pa a b :: T) := by
    refine bin_ e1 e2 ?_
    rw [add_lst (Nat.le_trans (m := 100000) (by simp; omega) (by decide +kernel))]
    simp
  have e4 : evE (gOf pg (d + 7)) n1 (.bi .tuple false (.cons (.bin .Add false (.slc false (.var 5) (.some (.var 12)) (.none)) (.slc false (.var 5) (.none) (.some (.var 12)))) (.nil))) (σ19 v0 P ps fs S s6 s7 (some (sq bk (tis W))) s9 s10 (some (ti (times S W))) (some (ti t)) s13) (pa a b :: T) = .ok (sq .tup (tis (S.drop t ++ S.take t))) (pa a b :: T) :=
    bi_ (es1 e3) (bi_tupL _ _ _)
  have e5 : evE (gOf pg (d + 7)) n1 (.bi .tuple false (.cons (.var 8) (.nil))) (σ19 v0 P ps fs S s6 s7 (some (sq bk (tis W))) s9 s10 (some (ti (times S W))) (some (ti t)) s13) (pa a b :: T) = .ok (sq .tup (tis W)) (pa a b :: T) :=
    bi_ (es1 (v_ rfl)) (tup_sq (hv a b) _)
  have h4 := h12 .tup .tup (S.drop t ++ S.take t) trivial trivial hturn.1 hturn.2 (by simp; omega)
  rw [times_turn S W (by omega)] at h4
  have q4 : evS (gOf pg (d + 7)) n1 w4 (σ19 v0 P ps fs S s6 s7 (some (sq bk (tis W))) s9 s10 (some (ti (times S W))) (some (ti t)) s13) (pa a b :: T) = .ok (.nx, _) (pa a b :: T) :=
    if_skip (cmp_ (call_ (es3 (v_ rfl) e4 e5) h4) (v_ rfl) (ne_self _ _))
  have htw := hcy.twice
  have e6 : evE (gOf pg (d + 7)) n1 (.bin .Add false (.var 5) (.var 5)) (σ19 v0 P ps fs S s6 s7 (some (sq bk (tis W))) s9 s10 (some (ti (times S W))) (some (ti t)) s13) (pa a b :: T) = .ok (sq .lst (tis (S ++ S))) (pa a b :: T) := by
    refine bin_ (v_ rfl) (v_ rfl) ?_
    rw [add_lst (Nat.le_trans (m := 100000) (by simp; omega) (by decide +kernel))]
    simp [sq]
  have h5 := h12 .lst bk (S ++ S) trivial (hv a b) htw.1 htw.2 (by simp; omega)
  rw [times_two] at h5
  have e7 : evE (gOf pg (d + 7)) n1 (.bin .Mult false (.cst (.int 2)) (.var 11)) (σ19 v0 P ps fs S s6 s7 (some (sq bk (tis W))) s9 s10 (some (ti (times S W))) (some (ti t)) s13) (pa a b :: T) = .ok (ti (2 * times S W)) (pa a b :: T) := by
    refine bin_ eE_cst (v_ rfl) ?_
    rw [mul_int]
    have : (decide (-(2 ^ 64) < (2 : Int) ∧ (2 : Int) < 2 ^ 64)) = true := by decide
    rw [this, Bool.true_or, guardR_true, show (2 : Int) * ((times S W : Nat) : Int) = ((2 * times S W : Nat) : Int) by omega]
  have q5 : evS (gOf pg (d + 7)) n1 w5 (σ19 v0 P ps fs S s6 s7 (some (sq bk (tis W))) s9 s10 (some (ti (times S W))) (some (ti t)) s13) (pa a b :: T) = .ok (.nx, _) (pa a b :: T) :=
    if_skip (cmp_ (call_ (es3 (v_ rfl) e6 (v_ rfl)) h5) e7 (ne_self _ _))
  exact nx_ q3 (nx_ q4 (nx_ q5 nil_))
end
end K63

/-! K64q: the law. -/
namespace K63
open Pv
open PySem (PyData)
theorem ok_app {a b : PySem.Str} (ha : PyData.strOk a = true) (hb : PyData.strOk b = true) : PyData.strOk (a ++ b) = true := by
  unfold PyData.strOk at ha hb ⊢
  rw [PySem.Str.cps_append, Array.all_append, ha, hb] <;> rfl
theorem ok_from : ∀ (ts : List PySem.Str) (k : Nat) (acc : PySem.Str), PyData.strOk acc = true → (∀ t ∈ ts, PyData.strOk t = true) → PyData.strOk (PySem.textFrom k acc ts) = true
  | [], _, _, h, _ => h
  | t :: ts, k, acc, h, h2 => by
    show PyData.strOk (PySem.textFrom (k + 1) (acc ++ (if k > 0 then ", " else "" : String) ++ t) ts) = true
    refine ok_from ts (k + 1) _ (ok_app (ok_app h ?_) (h2 t List.mem_cons_self)) fun u hu => h2 u (List.mem_cons_of_mem _ hu)
    split <;> decide +kernel
theorem ok_int : ∀ n : Nat, n < 20 → PyData.strOk (PyData.shown (.int (n : Int))) = true := by decide +kernel
theorem ok_shown {ns : List Nat} (h : ∀ a ∈ ns, a < 20) : PyData.strOk (PyData.list (pds ns)).shown = true := by
  rw [PyData.shown]
  unfold PySem.listText
  refine ok_app (ok_from _ _ _ (by decide +kernel) ?_) (by decide +kernel)
  induction ns with
  | nil =>
    intro t ht
    rw [show pds [] = [] from rfl, PyData.shownAll] at ht
    cases ht
  | cons n ns ih =>
    intro t ht
    rw [show pds (n :: ns) = PyData.int (n : Int) :: pds ns from rfl, PyData.shownAll] at ht
    rcases List.mem_cons.mp ht with ht | ht
    · rw [ht]; exact ok_int n (h n List.mem_cons_self)
    · exact ih (fun a ha => h a (List.mem_cons_of_mem _ ha)) t ht
theorem eqT_str (R : Rs) (s : PySem.Str) (hs : PyData.strOk s = true) : eqT R (.str s) (.str s) = some true := by
  show guardO (PySem.SeqAt.shaped (.str s) && PySem.SeqAt.shaped (.str s)) (some (PyData.eqv (.str s) (.str s))) = _
  have e1 : PySem.SeqAt.shaped (.str s) = true := by
    unfold PySem.SeqAt.shaped
    have h1 : PyData.canLay0 (.str s) = true := by unfold PyData.canLay0; exact hs
    have h2 : PyData.depth (.str s) ≤ 64 := by unfold PyData.depth; omega
    rw [h1, decide_eq_true h2] <;> rfl
  have e2 : PyData.eqv (.str s) (.str s) = true := by
    unfold PyData.eqv
    simp
  rw [e1, e2] <;> rfl
abbrev lp19 : Sm := .for (.name 7) (.rng1 (.cst (.int 6))) bdy19
section
variable {d n1 P : Nat} {a b : Int} {v0 : TV} {ps : List (Nat × Nat)} {fs : List (PySem.Str × TV)} {S : List Nat} {T : Rs} {s6 s7 s8 s9 s10 s11 s12 s13 : Option TV}
theorem turn19 {i : Nat} (ha : 0 ≤ a) (hc : Close P ps) (hcl : ∀ f, sub f (.ins 0 fs) = some (.ins 0 fs)) (hfs : fs.lookup ("own_ties" : PySem.Str) = some (.tup (ties ps))) (hSl : S.length ≤ 1000) (hSw : Walk ps S) (hSr : Round ps S) :
    ∃ (r8 r9 r10 r11 r12 : Option TV) (a' b' : Int) (T' : Rs), evSs (gOf pg (d + 7)) n1 bdy19 (σ19 v0 P ps fs S s6 (some (ti i)) s8 s9 s10 s11 s12 s13) (pa a b :: T) = .ok (.nx, σ19 v0 P ps fs S s6 (some (ti i)) r8 r9 r10 r11 r12 s13) (pa a' b' :: T') ∧ 0 ≤ a' := by
  have hS := List.length_pos_iff.mpr hSw.ne
  have hcy := cy_of hSw hSr
  refine (wa (d := d) (n1 := n1) (P := P) (b := b) (v0 := v0) (fs := fs) (S := S) (T := T) (s6 := s6) (s7 := some (ti i)) (s8 := s8) (s9 := s9) (s10 := s10) (s11 := s11) (s12 := s12) (s13 := s13) ha hc).elim fun W h => h.elim fun a1 h => h.elim fun b1 h => h.elim fun T1 h => h.elim fun k h => ?_
  obtain ⟨q0, ha1, hw, hwl, hv⟩ := h
  refine (wb (d := d) (n1 := n1) (P := P) (b := b1) (v0 := v0) (fs := fs) (S := S) (T := T1) (i := i) (k := k) (s6 := s6) (s9 := s9) (s10 := s10) (s11 := s11) (s12 := s12) (s13 := s13) ha1 hS hSl hcy hw hwl hv).elim fun bk h => h.elim fun W2 h => h.elim fun a2 h => h.elim fun b2 h => h.elim fun r9 h => h.elim fun r10 h => ?_
  obtain ⟨q1, ha2, hw2, hwl2, hv2⟩ := h
  refine (wc (d := d) (n1 := n1) (P := P) (b := b2) (v0 := v0) (ps := ps) (fs := fs) (S := S) (T := T1) (s6 := s6) (s7 := some (ti i)) (s9 := r9) (s10 := r10) (s11 := s11) (s12 := s12) (s13 := s13) ha2 hS hSl hwl2 hv2).elim fun t h => h.elim fun a3 h => h.elim fun b3 h => ?_
  obtain ⟨q2, ha3, ht⟩ := h
  have q3 := wd (d := d) (n1 := n1) (P := P) (a := a3) (b := b3) (v0 := v0) (s6 := s6) (s7 := some (ti i)) (s9 := r9) (s10 := r10) (s13 := s13) hcl hfs hcy hSl hSw hSr hw2 hwl2 hv2 ht
  exact ⟨_, _, _, _, _, a3, b3, T1, nx_ q0 (nx_ q1 (nx_ q2 q3)), ha3⟩
theorem for19 (ha : 0 ≤ a) (hc : Close P ps) (hcl : ∀ f, sub f (.ins 0 fs) = some (.ins 0 fs)) (hfs : fs.lookup ("own_ties" : PySem.Str) = some (.tup (ties ps))) (hSl : S.length ≤ 1000) (hSw : Walk ps S) (hSr : Round ps S) :
    ∃ (r7 r8 r9 r10 r11 r12 : Option TV) (R' : Rs), evS (gOf pg (d + 7)) n1 lp19 (σ19 v0 P ps fs S s6 s7 s8 s9 s10 s11 s12 s13) (pa a b :: T) = .ok (.nx, σ19 v0 P ps fs S s6 r7 r8 r9 r10 r11 r12 s13) R' := by
  have key : (evS (gOf pg (d + 7)) n1 lp19 (σ19 v0 P ps fs S s6 s7 s8 s9 s10 s11 s12 s13) (pa a b :: T)).wp fun r R' =>
      ∃ (r7 r8 r9 r10 r11 r12 : Option TV), r = (.nx, σ19 v0 P ps fs S s6 r7 r8 r9 r10 r11 r12 s13) := by
    rw [evS_for, show evI (gOf pg (d + 7)) n1 (.rng1 (.cst (.int 6))) (σ19 v0 P ps fs S s6 s7 s8 s9 s10 s11 s12 s13) (pa a b :: T) = .ok (.rng 0 6) (pa a b :: T) from ev_rng (n := 6) (by omega) eE_cst, Rz.bind_ok]
    refine for_wp 6 (by show 6 < 1000000; omega) (fun i σ R' => ∃ (r7 r8 r9 r10 r11 r12 : Option TV) (a' b' : Int) (T' : Rs), σ = σ19 v0 P ps fs S s6 r7 r8 r9 r10 r11 r12 s13 ∧ R' = pa a' b' :: T' ∧ 0 ≤ a') ⟨s7, s8, s9, s10, s11, s12, a, b, T, rfl, rfl, ha⟩ ?_ ?_
    · rintro i σ R1 hi ⟨r7, r8, r9, r10, r11, r12, a1, b1, T1, rfl, rfl, ha1⟩
      have ht := turn19 (d := d) (n1 := n1) (P := P) (a := a1) (b := b1) (v0 := v0) (fs := fs) (S := S) (T := T1) (i := i) (s6 := s6) (s8 := r8) (s9 := r9) (s10 := r10) (s11 := r11) (s12 := r12) (s13 := s13) ha1 hc hcl hfs hSl hSw hSr
      refine ht.elim fun t8 ht => ht.elim fun t9 ht => ht.elim fun t10 ht => ht.elim fun t11 ht => ht.elim fun t12 ht => ht.elim fun a2 ht => ht.elim fun b2 ht => ht.elim fun T2 ht => ?_
      have hat : Wk.at (.rng 0 6) i (pa a1 b1 :: T1) = some (some (ti i)) := by simp [hi]
      rw [turn_ hat eT_name ht.1, wp_ok]
      exact ⟨_, _, _, _, _, _, a2, b2, T2, rfl, rfl, ht.2⟩
    · rintro σ R1 ⟨r7, r8, r9, r10, r11, r12, a1, b1, T1, rfl, rfl, ha1⟩
      rw [fin_ (by simp), wp_ok]
      exact ⟨rfl, _, _, _, _, _, _, rfl⟩
  generalize evS (gOf pg (d + 7)) n1 lp19 (σ19 v0 P ps fs S s6 s7 s8 s9 s10 s11 s12 s13) (pa a b :: T) = r at key ⊢
  cases r with
  | ok x R1 =>
    obtain ⟨r7, r8, r9, r10, r11, r12, h1⟩ := key
    subst h1
    exact ⟨r7, r8, r9, r10, r11, r12, R1, rfl⟩
  | exc _ _ _ => exact False.elim key
  | no => exact False.elim key
end
theorem tg2 {G : Ga} {n0 i j : Nat} {x y : TV} {σ : Slots} {R : Rs} : evT G n0 (.tup (.cons (.name i) (.cons (.name j) (.nil)))) (.tup [x, y]) σ R = .ok ((σ.set i (some x)).set j (some y)) R := by
  rw [eT_tup]
  show guardR true (evTs _ _ _ _ _ R) = _
  rw [guardR_true, eTs_cons, eT_name, Rz.bind_ok, eTs_cons, eT_name, Rz.bind_ok, eTs_nil]
theorem bi_repr {r : Bool} {x : TV} {s : PySem.Str} {R : Rs} (h : reprT R x = some s) : biV .repr r [x] R = .ok (.str s) R := by
  show ofO ((reprT R x).map TV.str) R = _
  rw [h] <;> rfl
theorem f19 (d : Nat) (ns : List Int) : ∃ R', callD pg (d + 8) 0 19 [.klst (ns.map TV.int)] [] = .ok (.bl true) R' := by
  refine (f13 (d := d + 6) (n0 := 0) ns).elim fun a h => h.elim fun b h => ?_
  obtain ⟨e0, ha⟩ := h
  refine (f15 (d := d + 5) (n0 := 0) (a := a) (b := b) ha).elim fun P h => h.elim fun ps h => h.elim fun a1 h => h.elim fun b1 h => ?_
  obtain ⟨e1, ha1, hc⟩ := h
  refine (make4 (d := d + 3) (n0 := 0) (P := P) (ps := ps) (R := [pa a1 b1]) (by have := hc.pos; omega) (by have := hc.le; omega) (by have := hc.len.2; omega) hc.lt).elim fun fs h => ?_
  obtain ⟨e2, hfs, hcl⟩ := h
  refine (f18 (d := d + 4) (n0 := 0) (P := P) (a := a1) (b := b1) ha1 hc).elim fun S h => h.elim fun a2 h => h.elim fun b2 h => ?_
  obtain ⟨e3, ha2, hSw, hSr, hSl⟩ := h
  have hrep : ∀ R, reprT R (.lst (tis S)) = some (PyData.list (pds S)).shown := fun R => repr_tis (fun x hx => by have := hSw.lt x hx; have := hc.len.2; omega) (by omega) R
  have hok := ok_shown (ns := S) (fun x hx => by have := hSw.lt x hx; have := hc.len.2; omega)
  generalize (PyData.list (pds S)).shown = sh at hrep hok
  have z0 : evS (gOf pg (d + 7)) 0 (.asg (.name 1) (.call 13 (.cons (.var 0) (.cons (.cst (.int 0)) (.nil))))) [some (.klst (ns.map TV.int)), none, none, none, none, none, none, none, none, none, none, none, none, none] [] = .ok (.nx, [some (.klst (ns.map TV.int)), some (.root 0), none, none, none, none, none, none, none, none, none, none, none, none]) [pa a b] :=
    asg_ (call_ (es2 (v_ rfl) eE_cst) e0)
  have z1 : evS (gOf pg (d + 7)) 0 (.asg (.tup (.cons (.name 2) (.cons (.name 3) (.nil)))) (.call 15 (.cons (.var 1) (.cons (.cst (.int 4)) (.cons (.cst (.int 4)) (.nil)))))) [some (.klst (ns.map TV.int)), some (.root 0), none, none, none, none, none, none, none, none, none, none, none, none] [pa a b] = .ok (.nx, [some (.klst (ns.map TV.int)), some (.root 0), some (ti P), some (.lst (ties ps)), none, none, none, none, none, none, none, none, none, none]) [pa a1 b1] :=
    asgt_ (call_ (es3 (v_ rfl) eE_cst eE_cst) e1) tg2
  have z2 : evS (gOf pg (d + 7)) 0 (.asg (.tup (.cons (.name 4) (.cons (.name 5) (.nil)))) (.tup (.cons (.make 0 (.cons (.var 2) (.cons (.var 3) (.nil)))) (.cons (.call 18 (.cons (.var 1) (.cons (.var 2) (.cons (.var 3) (.nil))))) (.nil))))) [some (.klst (ns.map TV.int)), some (.root 0), some (ti P), some (.lst (ties ps)), none, none, none, none, none, none, none, none, none, none] [pa a1 b1] = .ok (.nx, σ19 (.klst (ns.map TV.int)) P ps fs S none none none none none none none none) [pa a2 b2] :=
    asgt_ (tup2 (R1 := [pa a1 b1]) (make_ (es2 (R1 := [pa a1 b1]) (R2 := [pa a1 b1]) (v_ rfl) (v_ rfl)) e2) (call_ (es3 (v_ rfl) (v_ rfl) (v_ rfl)) e3)) tg2
  have z3 : evS (gOf pg (d + 7)) 0 (.asg (.name 6) (.bi .repr false (.cons (.var 5) (.nil)))) (σ19 (.klst (ns.map TV.int)) P ps fs S none none none none none none none none) [pa a2 b2] = .ok (.nx, σ19 (.klst (ns.map TV.int)) P ps fs S (some (.str sh)) none none none none none none none) [pa a2 b2] :=
    asg_ (bi_ (R1 := [pa a2 b2]) (es1 (v_ rfl)) (bi_repr (hrep [pa a2 b2])))
  refine (for19 (d := d) (n1 := 0) (P := P) (a := a2) (b := b2) (v0 := .klst (ns.map TV.int)) (fs := fs) (S := S) (T := []) (s6 := some (.str sh)) (s7 := none) (s8 := none) (s9 := none) (s10 := none) (s11 := none) (s12 := none) (s13 := none) ha2 hc hcl hfs (by omega) hSw hSr).elim fun r7 h => h.elim fun r8 h => h.elim fun r9 h => h.elim fun r10 h => h.elim fun r11 h => h.elim fun r12 h => h.elim fun R' z4 => ?_
  have z5 : evE (gOf pg (d + 7)) 0 (.cmp .Eq (.bi .repr false (.cons (.var 5) (.nil))) (.var 6)) (σ19 (.klst (ns.map TV.int)) P ps fs S (some (.str sh)) r7 r8 r9 r10 r11 r12 none) R' = .ok (.bl true) R' :=
    cmp_ (bi_ (R1 := R') (R2 := R') (es1 (v_ rfl)) (bi_repr (hrep R'))) (v_ rfl) ((cmp_eq _ _ R').trans (eqT_str R' sh hok))
  refine ⟨R'.take 0, ?_⟩
  rw [run_eq (F := fn_19) rfl, run_tree bd_19 [some (.klst (ns.map TV.int)), none, none, none, none, none, none, none, none, none, none, none, none, none] rfl rfl rfl rfl]
  show ((evSs (gOf pg (d + 7)) 0 bd_19 _ _).bind _) = _
  have zz : evSs (gOf pg (d + 7)) 0 bd_19 [some (.klst (ns.map TV.int)), none, none, none, none, none, none, none, none, none, none, none, none, none] [] = .ok (.rt (.bl true), σ19 (.klst (ns.map TV.int)) P ps fs S (some (.str sh)) r7 r8 r9 r10 r11 r12 none) R' :=
    nx_ z0 (nx_ z1 (nx_ z2 (nx_ z3 (nx_ z4 (ret_ z5)))))
  rw [zz, Rz.bind_ok] <;> rfl
theorem plain (ns : List Int) (hl : ns.length ≤ 63) : ∃ R', callD pg 8 0 19 [.klst (ns.map TV.int)] [] = .ok (.bl true) R' := f19 0 ns
end K63

/-! Printed by gen.py: the facts of the written part, the head. -/
namespace K63
open PySem PySem.Spec PyProof.Rows L2 Pv
theorem all_mk {l : PySem.W.OpenLaw} {w : World} {K : PySem.W.Frag} {h : Heap} {mg : Str → Option Value} {fa C0 f0 f1 f2 f3 f4 f5 f6 f7 f8 f9 f10 f11 f12 f13 f14 f15 f16 f17 f18 f19 : Addr} (X : K.In h) (G : h.Ns mainGlobals mg) (hfa : mg "law" = some (.ref fa))
    {od0 an0 od1 an1 od2 an2 od3 an3 od4 an4 od5 an5 od6 an6 od7 an7 od8 an8 od9 an9 od10 an10 od11 an11 od12 an12 od13 an13 od14 an14 od15 an15 od16 an16 od17 an17 od18 an18 od19 an19 : Option Addr} {sl0 sl1 sl2 sl3 sl4 sl5 sl6 sl7 sl8 sl9 sl10 sl11 sl12 sl13 sl14 sl15 sl16 sl17 sl18 sl19 : Array (Option Value)} {oc0 kV0 dc0 pm0 cd0 ct0 oc1 kV1 dc1 pm1 cd1 ct1 oc2 kV2 dc2 pm2 cd2 ct2 oc3 kV3 dc3 pm3 cd3 ct3 oc4 kV4 dc4 pm4 cd4 ct4 oc5 kV5 dc5 pm5 cd5 ct5 oc6 kV6 dc6 pm6 cd6 ct6 oc7 kV7 dc7 pm7 cd7 ct7 oc8 kV8 dc8 pm8 cd8 ct8 oc9 kV9 dc9 pm9 cd9 ct9 oc10 kV10 dc10 pm10 cd10 ct10 oc11 kV11 dc11 pm11 cd11 ct11 oc12 kV12 dc12 pm12 cd12 ct12 oc13 kV13 dc13 pm13 cd13 ct13 oc14 kV14 dc14 pm14 cd14 ct14 oc15 kV15 dc15 pm15 cd15 ct15 oc16 kV16 dc16 pm16 cd16 ct16 oc17 kV17 dc17 pm17 cd17 ct17 oc18 kV18 dc18 pm18 cd18 ct18 oc19 kV19 dc19 pm19 cd19 ct19 : Value} {tk_MOST_TIES tk_MOST_PLACES tk_MOST_WALK tk_MOST_ROUND : Tok}
    (aC0 : PySem.W.nsIn K mainGlobals "Web" = some (some (.ref C0)))
    (a0 : PySem.W.nsIn K mainGlobals "is_integer" = some (some (.ref f0)))
    (l0 : K.lookup f0 = some ⟨oc0, od0, .func (PySem.W.fnOf "is_integer" "is_integer" (defArgs s_0) (defBody s_0) (defScope s_0) .none kV0 dc0 pm0 an0 cd0 ct0), sl0⟩)
    (c0 : PySem.W.codeIn K cd0 "is_integer" = true)
    (k0 : PySem.W.keepIn K (.ref f0) = true)
    (a1 : PySem.W.nsIn K mainGlobals "is_count" = some (some (.ref f1)))
    (l1 : K.lookup f1 = some ⟨oc1, od1, .func (PySem.W.fnOf "is_count" "is_count" (defArgs s_1) (defBody s_1) (defScope s_1) .none kV1 dc1 pm1 an1 cd1 ct1), sl1⟩)
    (c1 : PySem.W.codeIn K cd1 "is_count" = true)
    (k1 : PySem.W.keepIn K (.ref f1) = true)
    (a2 : PySem.W.nsIn K mainGlobals "is_list" = some (some (.ref f2)))
    (l2 : K.lookup f2 = some ⟨oc2, od2, .func (PySem.W.fnOf "is_list" "is_list" (defArgs s_2) (defBody s_2) (defScope s_2) .none kV2 dc2 pm2 an2 cd2 ct2), sl2⟩)
    (c2 : PySem.W.codeIn K cd2 "is_list" = true)
    (k2 : PySem.W.keepIn K (.ref f2) = true)
    (a3 : PySem.W.nsIn K mainGlobals "is_tie_value" = some (some (.ref f3)))
    (l3 : K.lookup f3 = some ⟨oc3, od3, .func (PySem.W.fnOf "is_tie_value" "is_tie_value" (defArgs s_3) (defBody s_3) (defScope s_3) .none kV3 dc3 pm3 an3 cd3 ct3), sl3⟩)
    (c3 : PySem.W.codeIn K cd3 "is_tie_value" = true)
    (k3 : PySem.W.keepIn K (.ref f3) = true)
    (a4 : PySem.W.findIn K (.ref C0) "__init__" = some (some (.ref f4)))
    (i4 : PySem.W.isFn K (.ref f4) = true)
    (l4 : K.lookup f4 = some ⟨oc4, od4, .func (PySem.W.fnOf "__init__" "Web.__init__" (defArgs s_4) (defBody s_4) (defScope s_4) .none kV4 dc4 pm4 an4 cd4 ct4), sl4⟩)
    (c4 : PySem.W.codeIn K cd4 "Web.__init__" = true)
    (k4 : PySem.W.keepIn K (.ref f4) = true)
    (a5 : PySem.W.nsIn K mainGlobals "want_web" = some (some (.ref f5)))
    (l5 : K.lookup f5 = some ⟨oc5, od5, .func (PySem.W.fnOf "want_web" "want_web" (defArgs s_5) (defBody s_5) (defScope s_5) .none kV5 dc5 pm5 an5 cd5 ct5), sl5⟩)
    (c5 : PySem.W.codeIn K cd5 "want_web" = true)
    (k5 : PySem.W.keepIn K (.ref f5) = true)
    (a6 : PySem.W.nsIn K mainGlobals "are_joined_ties" = some (some (.ref f6)))
    (l6 : K.lookup f6 = some ⟨oc6, od6, .func (PySem.W.fnOf "are_joined_ties" "are_joined_ties" (defArgs s_6) (defBody s_6) (defScope s_6) .none kV6 dc6 pm6 an6 cd6 ct6), sl6⟩)
    (c6 : PySem.W.codeIn K cd6 "are_joined_ties" = true)
    (k6 : PySem.W.keepIn K (.ref f6) = true)
    (a7 : PySem.W.nsIn K mainGlobals "is_walk_value" = some (some (.ref f7)))
    (l7 : K.lookup f7 = some ⟨oc7, od7, .func (PySem.W.fnOf "is_walk_value" "is_walk_value" (defArgs s_7) (defBody s_7) (defScope s_7) .none kV7 dc7 pm7 an7 cd7 ct7), sl7⟩)
    (c7 : PySem.W.codeIn K cd7 "is_walk_value" = true)
    (k7 : PySem.W.keepIn K (.ref f7) = true)
    (a8 : PySem.W.nsIn K mainGlobals "is_round_value" = some (some (.ref f8)))
    (l8 : K.lookup f8 = some ⟨oc8, od8, .func (PySem.W.fnOf "is_round_value" "is_round_value" (defArgs s_8) (defBody s_8) (defScope s_8) .none kV8 dc8 pm8 an8 cd8 ct8), sl8⟩)
    (c8 : PySem.W.codeIn K cd8 "is_round_value" = true)
    (k8 : PySem.W.keepIn K (.ref f8) = true)
    (a9 : PySem.W.nsIn K mainGlobals "want_walk" = some (some (.ref f9)))
    (l9 : K.lookup f9 = some ⟨oc9, od9, .func (PySem.W.fnOf "want_walk" "want_walk" (defArgs s_9) (defBody s_9) (defScope s_9) .none kV9 dc9 pm9 an9 cd9 ct9), sl9⟩)
    (c9 : PySem.W.codeIn K cd9 "want_walk" = true)
    (k9 : PySem.W.keepIn K (.ref f9) = true)
    (a10 : PySem.W.nsIn K mainGlobals "want_round" = some (some (.ref f10)))
    (l10 : K.lookup f10 = some ⟨oc10, od10, .func (PySem.W.fnOf "want_round" "want_round" (defArgs s_10) (defBody s_10) (defScope s_10) .none kV10 dc10 pm10 an10 cd10 ct10), sl10⟩)
    (c10 : PySem.W.codeIn K cd10 "want_round" = true)
    (k10 : PySem.W.keepIn K (.ref f10) = true)
    (a11 : PySem.W.nsIn K mainGlobals "times_by" = some (some (.ref f11)))
    (l11 : K.lookup f11 = some ⟨oc11, od11, .func (PySem.W.fnOf "times_by" "times_by" (defArgs s_11) (defBody s_11) (defScope s_11) .none kV11 dc11 pm11 an11 cd11 ct11), sl11⟩)
    (c11 : PySem.W.codeIn K cd11 "times_by" = true)
    (k11 : PySem.W.keepIn K (.ref f11) = true)
    (a12 : PySem.W.nsIn K mainGlobals "times_in" = some (some (.ref f12)))
    (l12 : K.lookup f12 = some ⟨oc12, od12, .func (PySem.W.fnOf "times_in" "times_in" (defArgs s_12) (defBody s_12) (defScope s_12) .none kV12 dc12 pm12 an12 cd12 ct12), sl12⟩)
    (c12 : PySem.W.codeIn K cd12 "times_in" = true)
    (k12 : PySem.W.keepIn K (.ref f12) = true)
    (a13 : PySem.W.nsIn K mainGlobals "_law_pot" = some (some (.ref f13)))
    (l13 : K.lookup f13 = some ⟨oc13, od13, .func (PySem.W.fnOf "_law_pot" "_law_pot" (defArgs s_13) (defBody s_13) (defScope s_13) .none kV13 dc13 pm13 an13 cd13 ct13), sl13⟩)
    (c13 : PySem.W.codeIn K cd13 "_law_pot" = true)
    (k13 : PySem.W.keepIn K (.ref f13) = true)
    (a14 : PySem.W.nsIn K mainGlobals "_law_draw" = some (some (.ref f14)))
    (l14 : K.lookup f14 = some ⟨oc14, od14, .func (PySem.W.fnOf "_law_draw" "_law_draw" (defArgs s_14) (defBody s_14) (defScope s_14) .none kV14 dc14 pm14 an14 cd14 ct14), sl14⟩)
    (c14 : PySem.W.codeIn K cd14 "_law_draw" = true)
    (k14 : PySem.W.keepIn K (.ref f14) = true)
    (a15 : PySem.W.nsIn K mainGlobals "_law_close" = some (some (.ref f15)))
    (l15 : K.lookup f15 = some ⟨oc15, od15, .func (PySem.W.fnOf "_law_close" "_law_close" (defArgs s_15) (defBody s_15) (defScope s_15) .none kV15 dc15 pm15 an15 cd15 ct15), sl15⟩)
    (c15 : PySem.W.codeIn K cd15 "_law_close" = true)
    (k15 : PySem.W.keepIn K (.ref f15) = true)
    (a16 : PySem.W.nsIn K mainGlobals "_law_walk" = some (some (.ref f16)))
    (l16 : K.lookup f16 = some ⟨oc16, od16, .func (PySem.W.fnOf "_law_walk" "_law_walk" (defArgs s_16) (defBody s_16) (defScope s_16) .none kV16 dc16 pm16 an16 cd16 ct16), sl16⟩)
    (c16 : PySem.W.codeIn K cd16 "_law_walk" = true)
    (k16 : PySem.W.keepIn K (.ref f16) = true)
    (a17 : PySem.W.nsIn K mainGlobals "_law_times" = some (some (.ref f17)))
    (l17 : K.lookup f17 = some ⟨oc17, od17, .func (PySem.W.fnOf "_law_times" "_law_times" (defArgs s_17) (defBody s_17) (defScope s_17) .none kV17 dc17 pm17 an17 cd17 ct17), sl17⟩)
    (c17 : PySem.W.codeIn K cd17 "_law_times" = true)
    (k17 : PySem.W.keepIn K (.ref f17) = true)
    (a18 : PySem.W.nsIn K mainGlobals "_law_tour" = some (some (.ref f18)))
    (l18 : K.lookup f18 = some ⟨oc18, od18, .func (PySem.W.fnOf "_law_tour" "_law_tour" (defArgs s_18) (defBody s_18) (defScope s_18) .none kV18 dc18 pm18 an18 cd18 ct18), sl18⟩)
    (c18 : PySem.W.codeIn K cd18 "_law_tour" = true)
    (k18 : PySem.W.keepIn K (.ref f18) = true)
    (a19 : PySem.W.nsIn K mainGlobals "law" = some (some (.ref f19)))
    (l19 : K.lookup f19 = some ⟨oc19, od19, .func (PySem.W.fnOf "law" "law" (defArgs s_19) (defBody s_19) (defScope s_19) .none kV19 dc19 pm19 an19 cd19 ct19), sl19⟩)
    (c19 : PySem.W.codeIn K cd19 "law" = true)
    (k19 : PySem.W.keepIn K (.ref f19) = true)
    (t_MOST_TIES : PySem.W.nsIn K mainGlobals "MOST_TIES" = some (some (.int 80 tk_MOST_TIES)))
    (t_MOST_PLACES : PySem.W.nsIn K mainGlobals "MOST_PLACES" = some (some (.int 60 tk_MOST_PLACES)))
    (t_MOST_WALK : PySem.W.nsIn K mainGlobals "MOST_WALK" = some (some (.int 400 tk_MOST_WALK)))
    (t_MOST_ROUND : PySem.W.nsIn K mainGlobals "MOST_ROUND" = some (some (.int 200000 tk_MOST_ROUND)))
    (z_isinstance : PySem.W.nsIn K mainGlobals "isinstance" = some none)
    (z_int : PySem.W.nsIn K mainGlobals "int" = some none)
    (z_bool : PySem.W.nsIn K mainGlobals "bool" = some none)
    (z_list : PySem.W.nsIn K mainGlobals "list" = some none)
    (z_tuple : PySem.W.nsIn K mainGlobals "tuple" = some none)
    (z_max : PySem.W.nsIn K mainGlobals "max" = some none)
    (z_len : PySem.W.nsIn K mainGlobals "len" = some none)
    (z_all : PySem.W.nsIn K mainGlobals "all" = some none)
    (z_enumerate : PySem.W.nsIn K mainGlobals "enumerate" = some none)
    (z_range : PySem.W.nsIn K mainGlobals "range" = some none)
    (z_zip : PySem.W.nsIn K mainGlobals "zip" = some none)
    (z_abs : PySem.W.nsIn K mainGlobals "abs" = some none)
    (z_divmod : PySem.W.nsIn K mainGlobals "divmod" = some none)
    (z_min : PySem.W.nsIn K mainGlobals "min" = some none)
    (z_repr : PySem.W.nsIn K mainGlobals "repr" = some none)
    (pg0 : PySem.W.plainGet K C0 Str.empty = true)
    (hd0 : PySem.W.hasDictIn K C0 = true)
    (po0 : PySem.W.plainOver K C0 = true)
    (sa0 : PySem.W.findIn K (.ref C0) "__setattr__" = some (some (.builtin "object.__setattr__")))
    (mk0 : PySem.W.makesIn K C0 = true)
    (kc0 : PySem.W.keepIn K (.ref C0) = true)
    (ha0 : PySem.W.findIn K (.ref C0) "__class__" = some (some (.builtin "object.__class__")))
    (hm0 : PySem.W.mroIn K C0 (.type "object") = some true)
    (n0_own_places : PySem.W.findIn K (.ref C0) "own_places" = some none)
    (n0_own_ties : PySem.W.findIn K (.ref C0) "own_ties" = some none)
    (n0_own_from : PySem.W.findIn K (.ref C0) "own_from" = some none)
    (n0_own_to : PySem.W.findIn K (.ref C0) "own_to" = some none)
    (hn : PySem.W.specialIn K (.builtin "object.__class__") "__get__" = some (some (.builtin "getset_descriptor.__get__")))
    (htk : PySem.W.takesIn K (.builtin "object.__class__") = some true)
    (o0_int : PySem.W.kitOne K (.ref C0) (.type "int") = some false)
    (o0_bool : PySem.W.kitOne K (.ref C0) (.type "bool") = some false)
    (o0_list : PySem.W.kitOne K (.ref C0) (.type "list") = some false)
    (o0_tuple : PySem.W.kitOne K (.ref C0) (.type "tuple") = some false)
    (u0_non : PySem.W.kitOne K (.type "NoneType") (.ref C0) = some false)
    (u0_bl : PySem.W.kitOne K (.type "bool") (.ref C0) = some false)
    (u0_int : PySem.W.kitOne K (.type "int") (.ref C0) = some false)
    (u0_str : PySem.W.kitOne K (.type "str") (.ref C0) = some false)
    (u0_lst : PySem.W.kitOne K (.type "list") (.ref C0) = some false)
    (u0_tup : PySem.W.kitOne K (.type "tuple") (.ref C0) = some false)
    (u0_dct : PySem.W.kitOne K (.type "dict") (.ref C0) = some false)
    (v0_0 : PySem.W.kitOne K (.ref C0) (.ref C0) = some true)
    : ∃ (fd : FuncData) (cl : Nat → Addr), (∀ (s : Shared) (v : Value), BindsTo s fd ⟨[v], []⟩ [("_law_script", v)]) ∧ ∀ base : Heap, K.In base → base.Ns mainGlobals mg → FnG l.prog w K mg base 16 fa fd ["_law_script"] (spC { K := K, cl := cl } fun n0 ts R => callD pg 8 n0 19 ts R) := by
  have e := hfa.symm.trans (PySem.W.mg_of X G a19)
  cases e
  have F0 := fun_mk (st := s_0) l0 c0 k0
  have B0 := F0.binds (ps := ps_0) fun _ _ _ _ _ _ us hl => match us, hl with | [_], _ => rfl
  let fd0 := PySem.W.fnOf "is_integer" "is_integer" (defArgs s_0) (defBody s_0) (defScope s_0) .none kV0 dc0 pm0 an0 cd0 ct0
  have F1 := fun_mk (st := s_1) l1 c1 k1
  have B1 := F1.binds (ps := ps_1) fun _ _ _ _ _ _ us hl => match us, hl with | [_], _ => rfl
  let fd1 := PySem.W.fnOf "is_count" "is_count" (defArgs s_1) (defBody s_1) (defScope s_1) .none kV1 dc1 pm1 an1 cd1 ct1
  have F2 := fun_mk (st := s_2) l2 c2 k2
  have B2 := F2.binds (ps := ps_2) fun _ _ _ _ _ _ us hl => match us, hl with | [_], _ => rfl
  let fd2 := PySem.W.fnOf "is_list" "is_list" (defArgs s_2) (defBody s_2) (defScope s_2) .none kV2 dc2 pm2 an2 cd2 ct2
  have F3 := fun_mk (st := s_3) l3 c3 k3
  have B3 := F3.binds (ps := ps_3) fun _ _ _ _ _ _ us hl => match us, hl with | [_, _], _ => rfl
  let fd3 := PySem.W.fnOf "is_tie_value" "is_tie_value" (defArgs s_3) (defBody s_3) (defScope s_3) .none kV3 dc3 pm3 an3 cd3 ct3
  have F4 := fun_mk (st := s_4) l4 c4 k4
  have B4 := F4.binds (ps := ps_4) fun _ _ _ _ _ _ us hl => match us, hl with | [_, _, _], _ => rfl
  let fd4 := PySem.W.fnOf "__init__" "Web.__init__" (defArgs s_4) (defBody s_4) (defScope s_4) .none kV4 dc4 pm4 an4 cd4 ct4
  have F5 := fun_mk (st := s_5) l5 c5 k5
  have B5 := F5.binds (ps := ps_5) fun _ _ _ _ _ _ us hl => match us, hl with | [_], _ => rfl
  let fd5 := PySem.W.fnOf "want_web" "want_web" (defArgs s_5) (defBody s_5) (defScope s_5) .none kV5 dc5 pm5 an5 cd5 ct5
  have F6 := fun_mk (st := s_6) l6 c6 k6
  have B6 := F6.binds (ps := ps_6) fun _ _ _ _ _ _ us hl => match us, hl with | [_, _, _], _ => rfl
  let fd6 := PySem.W.fnOf "are_joined_ties" "are_joined_ties" (defArgs s_6) (defBody s_6) (defScope s_6) .none kV6 dc6 pm6 an6 cd6 ct6
  have F7 := fun_mk (st := s_7) l7 c7 k7
  have B7 := F7.binds (ps := ps_7) fun _ _ _ _ _ _ us hl => match us, hl with | [_, _], _ => rfl
  let fd7 := PySem.W.fnOf "is_walk_value" "is_walk_value" (defArgs s_7) (defBody s_7) (defScope s_7) .none kV7 dc7 pm7 an7 cd7 ct7
  have F8 := fun_mk (st := s_8) l8 c8 k8
  have B8 := F8.binds (ps := ps_8) fun _ _ _ _ _ _ us hl => match us, hl with | [_, _], _ => rfl
  let fd8 := PySem.W.fnOf "is_round_value" "is_round_value" (defArgs s_8) (defBody s_8) (defScope s_8) .none kV8 dc8 pm8 an8 cd8 ct8
  have F9 := fun_mk (st := s_9) l9 c9 k9
  have B9 := F9.binds (ps := ps_9) fun _ _ _ _ _ _ us hl => match us, hl with | [_, _], _ => rfl
  let fd9 := PySem.W.fnOf "want_walk" "want_walk" (defArgs s_9) (defBody s_9) (defScope s_9) .none kV9 dc9 pm9 an9 cd9 ct9
  have F10 := fun_mk (st := s_10) l10 c10 k10
  have B10 := F10.binds (ps := ps_10) fun _ _ _ _ _ _ us hl => match us, hl with | [_, _], _ => rfl
  let fd10 := PySem.W.fnOf "want_round" "want_round" (defArgs s_10) (defBody s_10) (defScope s_10) .none kV10 dc10 pm10 an10 cd10 ct10
  have F11 := fun_mk (st := s_11) l11 c11 k11
  have B11 := F11.binds (ps := ps_11) fun _ _ _ _ _ _ us hl => match us, hl with | [_, _], _ => rfl
  let fd11 := PySem.W.fnOf "times_by" "times_by" (defArgs s_11) (defBody s_11) (defScope s_11) .none kV11 dc11 pm11 an11 cd11 ct11
  have F12 := fun_mk (st := s_12) l12 c12 k12
  have B12 := F12.binds (ps := ps_12) fun _ _ _ _ _ _ us hl => match us, hl with | [_, _, _], _ => rfl
  let fd12 := PySem.W.fnOf "times_in" "times_in" (defArgs s_12) (defBody s_12) (defScope s_12) .none kV12 dc12 pm12 an12 cd12 ct12
  have F13 := fun_mk (st := s_13) l13 c13 k13
  have B13 := F13.binds (ps := ps_13) fun _ _ _ _ _ _ us hl => match us, hl with | [_, _], _ => rfl
  let fd13 := PySem.W.fnOf "_law_pot" "_law_pot" (defArgs s_13) (defBody s_13) (defScope s_13) .none kV13 dc13 pm13 an13 cd13 ct13
  have F14 := fun_mk (st := s_14) l14 c14 k14
  have B14 := F14.binds (ps := ps_14) fun _ _ _ _ _ _ us hl => match us, hl with | [_, _], _ => rfl
  let fd14 := PySem.W.fnOf "_law_draw" "_law_draw" (defArgs s_14) (defBody s_14) (defScope s_14) .none kV14 dc14 pm14 an14 cd14 ct14
  have F15 := fun_mk (st := s_15) l15 c15 k15
  have B15 := F15.binds (ps := ps_15) fun _ _ _ _ _ _ us hl => match us, hl with | [_, _, _], _ => rfl
  let fd15 := PySem.W.fnOf "_law_close" "_law_close" (defArgs s_15) (defBody s_15) (defScope s_15) .none kV15 dc15 pm15 an15 cd15 ct15
  have F16 := fun_mk (st := s_16) l16 c16 k16
  have B16 := F16.binds (ps := ps_16) fun _ _ _ _ _ _ us hl => match us, hl with | [_, _, _], _ => rfl
  let fd16 := PySem.W.fnOf "_law_walk" "_law_walk" (defArgs s_16) (defBody s_16) (defScope s_16) .none kV16 dc16 pm16 an16 cd16 ct16
  have F17 := fun_mk (st := s_17) l17 c17 k17
  have B17 := F17.binds (ps := ps_17) fun _ _ _ _ _ _ us hl => match us, hl with | [_, _], _ => rfl
  let fd17 := PySem.W.fnOf "_law_times" "_law_times" (defArgs s_17) (defBody s_17) (defScope s_17) .none kV17 dc17 pm17 an17 cd17 ct17
  have F18 := fun_mk (st := s_18) l18 c18 k18
  have B18 := F18.binds (ps := ps_18) fun _ _ _ _ _ _ us hl => match us, hl with | [_, _, _], _ => rfl
  let fd18 := PySem.W.fnOf "_law_tour" "_law_tour" (defArgs s_18) (defBody s_18) (defScope s_18) .none kV18 dc18 pm18 an18 cd18 ct18
  have F19 := fun_mk (st := s_19) l19 c19 k19
  have B19 := F19.binds (ps := ps_19) fun _ _ _ _ _ _ us hl => match us, hl with | [_], _ => rfl
  let fd19 := PySem.W.fnOf "law" "law" (defArgs s_19) (defBody s_19) (defScope s_19) .none kV19 dc19 pm19 an19 cd19 ct19
  let fav : Nat → Addr := fun i => match i with
    | 0 => f0
    | 1 => f1
    | 2 => f2
    | 3 => f3
    | 4 => f4
    | 5 => f5
    | 6 => f6
    | 7 => f7
    | 8 => f8
    | 9 => f9
    | 10 => f10
    | 11 => f11
    | 12 => f12
    | 13 => f13
    | 14 => f14
    | 15 => f15
    | 16 => f16
    | 17 => f17
    | 18 => f18
    | 19 => fa
    | _ => 0
  let fdv : Nat → FuncData := fun i => match i with
    | 0 => fd0
    | 1 => fd1
    | 2 => fd2
    | 3 => fd3
    | 4 => fd4
    | 5 => fd5
    | 6 => fd6
    | 7 => fd7
    | 8 => fd8
    | 9 => fd9
    | 10 => fd10
    | 11 => fd11
    | 12 => fd12
    | 13 => fd13
    | 14 => fd14
    | 15 => fd15
    | 16 => fd16
    | 17 => fd17
    | 18 => fd18
    | 19 => fd19
    | _ => fd19
  let clv : Nat → Addr := fun i => match i with
    | 0 => C0
    | _ => 0
  have T : Txt K mg fav fdv { K := K, cl := clv } :=
    { hK := rfl
      f_0 := F0
      b_0 := B0
      m_0 := PySem.W.mg_of X G a0
      f_1 := F1
      b_1 := B1
      m_1 := PySem.W.mg_of X G a1
      f_2 := F2
      b_2 := B2
      m_2 := PySem.W.mg_of X G a2
      f_3 := F3
      b_3 := B3
      m_3 := PySem.W.mg_of X G a3
      f_4 := F4
      b_4 := B4
      f_5 := F5
      b_5 := B5
      m_5 := PySem.W.mg_of X G a5
      f_6 := F6
      b_6 := B6
      m_6 := PySem.W.mg_of X G a6
      f_7 := F7
      b_7 := B7
      m_7 := PySem.W.mg_of X G a7
      f_8 := F8
      b_8 := B8
      m_8 := PySem.W.mg_of X G a8
      f_9 := F9
      b_9 := B9
      m_9 := PySem.W.mg_of X G a9
      f_10 := F10
      b_10 := B10
      m_10 := PySem.W.mg_of X G a10
      f_11 := F11
      b_11 := B11
      m_11 := PySem.W.mg_of X G a11
      f_12 := F12
      b_12 := B12
      m_12 := PySem.W.mg_of X G a12
      f_13 := F13
      b_13 := B13
      m_13 := PySem.W.mg_of X G a13
      f_14 := F14
      b_14 := B14
      m_14 := PySem.W.mg_of X G a14
      f_15 := F15
      b_15 := B15
      m_15 := PySem.W.mg_of X G a15
      f_16 := F16
      b_16 := B16
      m_16 := PySem.W.mg_of X G a16
      f_17 := F17
      b_17 := B17
      m_17 := PySem.W.mg_of X G a17
      f_18 := F18
      b_18 := B18
      m_18 := PySem.W.mg_of X G a18
      f_19 := F19
      b_19 := B19
      m_19 := PySem.W.mg_of X G a19
      kb_12_0_1_2 := Fun.kbp F12 fun _ _ _ _ _ _ us ws gs h1 h2 h3 => match us, ws, h1, h2, h3 with | [], [_, _, _], _, _, h3 => by cases h3; rfl
      z_isinstance := PySem.W.mg_none_of X G z_isinstance
      z_int := PySem.W.mg_none_of X G z_int
      z_bool := PySem.W.mg_none_of X G z_bool
      z_list := PySem.W.mg_none_of X G z_list
      z_tuple := PySem.W.mg_none_of X G z_tuple
      z_max := PySem.W.mg_none_of X G z_max
      z_len := PySem.W.mg_none_of X G z_len
      z_all := PySem.W.mg_none_of X G z_all
      z_enumerate := PySem.W.mg_none_of X G z_enumerate
      z_range := PySem.W.mg_none_of X G z_range
      z_zip := PySem.W.mg_none_of X G z_zip
      z_abs := PySem.W.mg_none_of X G z_abs
      z_divmod := PySem.W.mg_none_of X G z_divmod
      z_min := PySem.W.mg_none_of X G z_min
      z_repr := PySem.W.mg_none_of X G z_repr
      k_MOST_TIES := ⟨_, PySem.W.mg_of X G t_MOST_TIES⟩
      k_MOST_PLACES := ⟨_, PySem.W.mg_of X G t_MOST_PLACES⟩
      k_MOST_WALK := ⟨_, PySem.W.mg_of X G t_MOST_WALK⟩
      k_MOST_ROUND := ⟨_, PySem.W.mg_of X G t_MOST_ROUND⟩
      mg_Web := PySem.W.mg_of X G aC0
      mk_Web := ⟨mk0, a4, i4, kc0⟩
      ins := fun hG j hj => by
        rw [hG] at hj
        match j, hj with
        | 0, _ => exact ⟨⟨pg0, hd0, po0, sa0⟩, ha0, hn, htk, hm0⟩
        | _ + 1, hj => exact absurd hj (by intro z; cases z)
      nf_own_from := fun d j => match j with
        | 0 => show Cls K C0 ∧ NoAttr K C0 "own_from" from ⟨⟨pg0, hd0, po0, sa0⟩, n0_own_from⟩
        | _ + 1 => True.intro
      nf_own_places := fun d j => match j with
        | 0 => show Cls K C0 ∧ NoAttr K C0 "own_places" from ⟨⟨pg0, hd0, po0, sa0⟩, n0_own_places⟩
        | _ + 1 => True.intro
      nf_own_ties := fun d j => match j with
        | 0 => show Cls K C0 ∧ NoAttr K C0 "own_ties" from ⟨⟨pg0, hd0, po0, sa0⟩, n0_own_ties⟩
        | _ + 1 => True.intro
      nf_own_to := fun d j => match j with
        | 0 => show Cls K C0 ∧ NoAttr K C0 "own_to" from ⟨⟨pg0, hd0, po0, sa0⟩, n0_own_to⟩
        | _ + 1 => True.intro
      kd_int := fun d => ⟨fun t => by cases t <;> exact kit_ty (by decide +kernel), fun j hj => match j, hj with
        | 0, _ => o0_int
        | _ + 1, hj => absurd (show (none : Option (Nat × Bool)).isSome = true from hj) (by decide)⟩
      kd_bool := fun d => ⟨fun t => by cases t <;> exact kit_ty (by decide +kernel), fun j hj => match j, hj with
        | 0, _ => o0_bool
        | _ + 1, hj => absurd (show (none : Option (Nat × Bool)).isSome = true from hj) (by decide)⟩
      kd_list := fun d => ⟨fun t => by cases t <;> exact kit_ty (by decide +kernel), fun j hj => match j, hj with
        | 0, _ => o0_list
        | _ + 1, hj => absurd (show (none : Option (Nat × Bool)).isSome = true from hj) (by decide)⟩
      kd_tuple := fun d => ⟨fun t => by cases t <;> exact kit_ty (by decide +kernel), fun j hj => match j, hj with
        | 0, _ => o0_tuple
        | _ + 1, hj => absurd (show (none : Option (Nat × Bool)).isSome = true from hj) (by decide)⟩
      kd_Web := fun d => ⟨fun t => match t with
        | .non => u0_non
        | .bl => u0_bl
        | .int => u0_int
        | .str => u0_str
        | .lst => u0_lst
        | .tup => u0_tup
        | .dct => u0_dct, fun j hj => match j, hj with
        | 0, _ => v0_0
        | _ + 1, hj => absurd (show (none : Option (Nat × Bool)).isSome = true from hj) (by decide)⟩ }
  exact ⟨fd19, clv, fun s v => .of_eq rfl, fun base _ _ => all_fn (P := l.prog) (w := w) (base := base) T 8 19⟩
theorem walk {l : PySem.W.OpenLaw} {q : Program} {loose : List Str} {XP : (Str → Option Value) → Heap → Prop} {YP : World → Heap → Prop} {d : DefRec} {K : Params → PySem.W.Frag} (hn : l.most = some 63) (hdf : d.params.defaults = [])
    (hY : ∀ (w : World) (h : Heap), YP w h → (K w.params).In h)
    (F : ∀ (w : World) (mg : Str → Option Value) (fa : Addr) (h : Heap), (K w.params).In h → h.Ns mainGlobals mg → mg d.name = some (.ref fa) →
      ∃ (fd : FuncData) (cl : Nat → Addr), (∀ (s : Shared) (u : Value), BindsTo s fd ⟨[u], []⟩ [("_law_script", u)]) ∧ ∀ base : Heap, (K w.params).In base → base.Ns mainGlobals mg → FnG l.prog w (K w.params) mg base 16 fa fd ["_law_script"] (spC { K := K w.params, cl := cl } fun n0 ts R => callD pg 8 n0 19 ts R)) :
    PySem.W.WalkO q loose XP YP l.row.toRowW d [] (fun f vs => PySem.call f vs) :=
  walk_G (n := 63) (k := 16) (x := "_law_script") (cf := fun n0 ts R => callD pg 8 n0 19 ts R) hn (by decide) hdf ⟨rfl, by decide, by decide⟩ hY F fun ns hl => plain ns hl
end K63

open PySem PySem.W PyProof.Rows in
set_option maxRecDepth 100000 in
set_option maxHeartbeats 0 in
theorem PySem.Challenge.cw_suretexts_k63_whole_times_in_a_round_holds : PySem.Challenge.rw_suretexts_k63_whole_times_in_a_round.Holds := by
  w_on; o_law; k_head; (case hw => w_witness2)
  k_fill
  refine K63.walk (l := PySem.Challenge.rw_suretexts_k63_whole_times_in_a_round) rfl rfl (fun w h Y => PySem.W.kIn_of Y) ?F
  case F =>
    intro w mg fa h KX G hmg
    refine' K63.all_mk KX G hmg ?aC0 ?a0 ?l0 ?c0 ?k0 ?a1 ?l1 ?c1 ?k1 ?a2 ?l2 ?c2 ?k2 ?a3 ?l3 ?c3 ?k3 ?a4 ?i4 ?l4 ?c4 ?k4 ?a5 ?l5 ?c5 ?k5 ?a6 ?l6 ?c6 ?k6 ?a7 ?l7 ?c7 ?k7 ?a8 ?l8 ?c8 ?k8 ?a9 ?l9 ?c9 ?k9 ?a10 ?l10 ?c10 ?k10 ?a11 ?l11 ?c11 ?k11 ?a12 ?l12 ?c12 ?k12 ?a13 ?l13 ?c13 ?k13 ?a14 ?l14 ?c14 ?k14 ?a15 ?l15 ?c15 ?k15 ?a16 ?l16 ?c16 ?k16 ?a17 ?l17 ?c17 ?k17 ?a18 ?l18 ?c18 ?k18 ?a19 ?l19 ?c19 ?k19 ?t_MOST_TIES ?t_MOST_PLACES ?t_MOST_WALK ?t_MOST_ROUND ?z_isinstance ?z_int ?z_bool ?z_list ?z_tuple ?z_max ?z_len ?z_all ?z_enumerate ?z_range ?z_zip ?z_abs ?z_divmod ?z_min ?z_repr ?pg0 ?hd0 ?po0 ?sa0 ?mk0 ?kc0 ?ha0 ?hm0 ?n0_own_places ?n0_own_ties ?n0_own_from ?n0_own_to ?hn ?htk ?o0_int ?o0_bool ?o0_list ?o0_tuple ?u0_non ?u0_bl ?u0_int ?u0_str ?u0_lst ?u0_tup ?u0_dct ?v0_0
    (case aC0 => k_is)
    (case a0 => k_is)
    (case l0 => k_is)
    (case c0 => k_is)
    (case k0 => k_is)
    (case a1 => k_is)
    (case l1 => k_is)
    (case c1 => k_is)
    (case k1 => k_is)
    (case a2 => k_is)
    (case l2 => k_is)
    (case c2 => k_is)
    (case k2 => k_is)
    (case a3 => k_is)
    (case l3 => k_is)
    (case c3 => k_is)
    (case k3 => k_is)
    (case a4 => k_is)
    (case i4 => k_is)
    (case l4 => k_is)
    (case c4 => k_is)
    (case k4 => k_is)
    (case a5 => k_is)
    (case l5 => k_is)
    (case c5 => k_is)
    (case k5 => k_is)
    (case a6 => k_is)
    (case l6 => k_is)
    (case c6 => k_is)
    (case k6 => k_is)
    (case a7 => k_is)
    (case l7 => k_is)
    (case c7 => k_is)
    (case k7 => k_is)
    (case a8 => k_is)
    (case l8 => k_is)
    (case c8 => k_is)
    (case k8 => k_is)
    (case a9 => k_is)
    (case l9 => k_is)
    (case c9 => k_is)
    (case k9 => k_is)
    (case a10 => k_is)
    (case l10 => k_is)
    (case c10 => k_is)
    (case k10 => k_is)
    (case a11 => k_is)
    (case l11 => k_is)
    (case c11 => k_is)
    (case k11 => k_is)
    (case a12 => k_is)
    (case l12 => k_is)
    (case c12 => k_is)
    (case k12 => k_is)
    (case a13 => k_is)
    (case l13 => k_is)
    (case c13 => k_is)
    (case k13 => k_is)
    (case a14 => k_is)
    (case l14 => k_is)
    (case c14 => k_is)
    (case k14 => k_is)
    (case a15 => k_is)
    (case l15 => k_is)
    (case c15 => k_is)
    (case k15 => k_is)
    (case a16 => k_is)
    (case l16 => k_is)
    (case c16 => k_is)
    (case k16 => k_is)
    (case a17 => k_is)
    (case l17 => k_is)
    (case c17 => k_is)
    (case k17 => k_is)
    (case a18 => k_is)
    (case l18 => k_is)
    (case c18 => k_is)
    (case k18 => k_is)
    (case a19 => k_is)
    (case l19 => k_is)
    (case c19 => k_is)
    (case k19 => k_is)
    (case t_MOST_TIES => k_is)
    (case t_MOST_PLACES => k_is)
    (case t_MOST_WALK => k_is)
    (case t_MOST_ROUND => k_is)
    (case z_isinstance => k_is)
    (case z_int => k_is)
    (case z_bool => k_is)
    (case z_list => k_is)
    (case z_tuple => k_is)
    (case z_max => k_is)
    (case z_len => k_is)
    (case z_all => k_is)
    (case z_enumerate => k_is)
    (case z_range => k_is)
    (case z_zip => k_is)
    (case z_abs => k_is)
    (case z_divmod => k_is)
    (case z_min => k_is)
    (case z_repr => k_is)
    (case pg0 => k_is)
    (case hd0 => k_is)
    (case po0 => k_is)
    (case sa0 => k_is)
    (case mk0 => k_is)
    (case kc0 => k_is)
    (case ha0 => k_is)
    (case hm0 => k_is)
    (case n0_own_places => k_is)
    (case n0_own_ties => k_is)
    (case n0_own_from => k_is)
    (case n0_own_to => k_is)
    (case hn => k_is)
    (case htk => k_is)
    (case o0_int => kit_is)
    (case o0_bool => kit_is)
    (case o0_list => kit_is)
    (case o0_tuple => kit_is)
    (case u0_non => kit_is)
    (case u0_bl => kit_is)
    (case u0_int => kit_is)
    (case u0_str => kit_is)
    (case u0_lst => kit_is)
    (case u0_tup => kit_is)
    (case u0_dct => kit_is)
    (case v0_0 => kit_is)
#print axioms PySem.Challenge.cw_suretexts_k63_whole_times_in_a_round_holds
