import PyProof.Rows.All
import Wide.All
import OpenK.AllK
import Wide.FinOn
import HandS.ForMost
import HandS.TupAny
import HandS.TupMul
import HandS.Deep
import HandS.IsInst
import HandS.Call
import HandS.List
import HandS.Comp
import HandS.Iter
import HandS.ExcOwn
import HandS.Star
import HandS.EndTab
import HandS.Zip
import HandS.Flow
import HandS.Wide
import HandS.Style
import HandS.Exc
import HandS.Codes
import KE.SortData
import KE.KTupSum
import KE.KRevSl
import KE.DataMinMax
import HandS.SetFor
import HandS.Remove
import HandS.Conv
import HandS.Words
import HandS.EndBits
import PyProof.Claim2Refuses
import PyProof.Rows.SetFrom
import KE.GoesEnum
import KE.GoesMore
import HandS.ExcInit
import HandS.ExcField
import HandS.ExcIs
import KE.KSuperObj
import PyProof.EnumMake
import PyProof.EnumFor
import KE.GoesZip
import KE.KItemsList
import HandS.ExcValue
import HandS.ExcSuper
import KE.KExcSuper
import HandS.BoundDict
import HandS.DictComp
import HandS.Small
import PyProof.ReprRoads
import PyProof.ReprNest
import PyProof.CallFns
import KE.DatumOrd
import PySem.Challenge.RW_pouredastold_k10_errors_each_its_own
section
set_option Elab.async false
set_option linter.all false
set_option maxRecDepth 100000
/-! M1: Mini. Trees with positions (T, toE gives the row's own expression), data, stores, a pure evaluator. -/
namespace Mi
noncomputable section
open PySem
abbrev P := PyData
/-- a thing of the store: a list of data (z = 0: may be changed, else given away as data), a list of refs, a dict -/
inductive Ob where
  | lp (z : Nat) (xs : List P)
  | lr (xs : List Nat)
  | dp (z : Nat) (kvs : List (P × P))
  | no
/-- a value: data, or a thing of the store -/
inductive Vl where
  | p (x : P)
  | r (n : Nat)
abbrev En := List (Option Vl)
abbrev Sr := List Ob
inductive R (α : Type) where
  | ok (a : α) (s : Sr)
  | ex (c : Str) (x : P) (s : Sr)
  | no
inductive X where
  | nx (e : En) (s : Sr)
  | rt (v : Vl) (s : Sr)
  | bk (e : En) (s : Sr)
  | ct (e : En) (s : Sr)
  | ex (c : Str) (x : P) (s : Sr)
  | no
def R.bd {α β : Type} (m : R α) (f : α → Sr → R β) : R β := match m with
  | .ok a s => f a s
  | .ex c x s => .ex c x s
  | .no => .no
def R.bx {α : Type} (m : R α) (f : α → Sr → X) : X := match m with
  | .ok a s => f a s
  | .ex c x s => .ex c x s
  | .no => .no
def R.of {α : Type} (o : Option α) (s : Sr) : R α := match o with
  | some a => .ok a s
  | none => .no
/-- what is read of a value as data -/
def dd : Vl → Sr → Option P
  | .p x, _ => some x
  | .r n, s => match s[n]? with
    | some (.lp _ xs) => some (.list xs)
    | _ => none
def ddL : List Vl → Sr → Option (List P)
  | [], _ => some []
  | v :: r, s => match dd v s, ddL r s with
    | some x, some xs => some (x :: xs)
    | _, _ => none
/-- given away as data -/
def toP : Vl → Sr → Option (P × Sr)
  | .p x, s => some (x, s)
  | .r n, s => match s[n]? with
    | some (.lp _ xs) => some (.list xs, s.set n (.lp 1 xs))
    | _ => none
def toPL : List Vl → Sr → Option (List P × Sr)
  | [], s => some ([], s)
  | v :: r, s => match toP v s with
    | some (x, s) => match toPL r s with
      | some (xs, s) => some (x :: xs, s)
      | none => none
    | none => none
def lim : Nat := 1000000
def ints? : List P → Option (List Int)
  | [] => some []
  | .int i :: r => (ints? r).map (i :: ·)
  | _ => none
def bools? : List P → Option (List Bool)
  | [] => some []
  | .bool b :: r => (bools? r).map (b :: ·)
  | _ => none
def tru : P → Option Bool
  | .none => some false
  | .bool b => some b
  | .int i => some (i != 0)
  | .str y => if y.length ≤ lim then some ((y.length : Int) != 0) else none
  | .list xs => some (!xs.isEmpty)
  | .tuple xs => some (!xs.isEmpty)
  | .dict _ => none
def MulOk (i j : Int) : Prop := (-18446744073709551616 < i ∧ i < 18446744073709551616) ∨ (-18446744073709551616 < j ∧ j < 18446744073709551616) ∨ i.natAbs.log2 + j.natAbs.log2 < 1000000
instance (i j : Int) : Decidable (MulOk i j) := Classical.propDecidable _
def DivOk (j : Int) : Prop := (0 < j ∧ j < 1073741824) ∨ (0 < j ∧ j.natAbs.log2 < 9000)
instance (j : Int) : Decidable (DivOk j) := Classical.propDecidable _
def PowOk (i j : Int) : Prop := 0 ≤ j ∧ ((i.natAbs : Int) < 18446744073709551616 ∧ j ≤ 1000000 ∨ (i.natAbs.log2 + 1 : Int) * j ≤ 134217728)
instance (i j : Int) : Decidable (PowOk i j) := Classical.propDecidable _
def rep {α : Type} (xs : List α) (n : Nat) : List α := (List.replicate n xs).flatten
def binP : Operator → P → P → Option P
  | .Add, .int i, .int j => some (.int (i + j))
  | .Add, .str i, .str j => if i.length + j.length ≤ lim then some (.str (i ++ j)) else none
  | .Add, .tuple xs, .tuple ys => if xs.length + ys.length ≤ lim then some (.tuple (xs ++ ys)) else none
  | .Add, .list xs, .list ys => if xs.length + ys.length ≤ lim then some (.list (xs ++ ys)) else none
  | .Sub, .int i, .int j => some (.int (i - j))
  | .Mult, .int i, .int j => if MulOk i j then some (.int (i * j)) else none
  | .Mult, .tuple xs, .int k => if xs ≠ [] ∧ 1 ≤ k ∧ k ≤ 1000 ∧ xs.length ≤ 1000 then some (.tuple (rep xs k.toNat)) else none
  | .Mult, .list xs, .int k => if 0 ≤ k ∧ k ≤ lim ∧ xs.length * k.toNat ≤ lim then some (.list (rep xs k.toNat)) else none
  | .FloorDiv, .int i, .int j => if DivOk j then some (.int (i / j)) else none
  | .Mod, .int i, .int j => if 0 < j then some (.int (i % j)) else none
  | .BitAnd, .int i, .int j => some (.int (Builtin.bitAnd i j))
  | .BitOr, .int i, .int j => some (.int (Builtin.bitOr i j))
  | .Pow, .int i, .int j => if PowOk i j then some (.int (i ^ j.toNat)) else none
  | _, _, _ => none
def sh (x : P) : Bool := SeqAt.shaped x
def cmpP : CmpOp → P → P → Option Bool
  | .Eq, .int i, .int j => some (decide (i = j))
  | .Eq, .str i, .str j => some (decide (i = j))
  | .Eq, x, y => if sh x && sh y then some (PyData.eqv x y) else none
  | .NotEq, .int i, .int j => some (!decide (i = j))
  | .NotEq, .str i, .str j => some (!decide (i = j))
  | .NotEq, x, y => if sh x && sh y then some (!PyData.eqv x y) else none
  | .Lt, .int i, .int j => some (decide (i < j))
  | .LtE, .int i, .int j => some (decide (i ≤ j))
  | .Gt, .int i, .int j => some (decide (j < i))
  | .GtE, .int i, .int j => some (decide (j ≤ i))
  | .Is, .bool i, .bool j => some (i == j)
  | .IsNot, .bool i, .bool j => some (!(i == j))
  | .Is, .none, .none => some true
  | .Is, _, .none => some false
  | .IsNot, .none, .none => some false
  | .IsNot, _, .none => some true
  | .In, x, .list ys => if sh x && sh (.list ys) then some (ys.any fun y => PyData.eqv y x) else none
  | .In, x, .tuple ys => if sh x && sh (.tuple ys) then some (ys.any fun y => PyData.eqv y x) else none
  | .NotIn, x, .list ys => if sh x && sh (.list ys) then some (!ys.any fun y => PyData.eqv y x) else none
  | .NotIn, x, .tuple ys => if sh x && sh (.tuple ys) then some (!ys.any fun y => PyData.eqv y x) else none
  | _, _, _ => none
/-- a place in a sequence -/
def ixP : P → P → Option P
  | .list xs, .int i => L2.atI xs i
  | .tuple xs, .int i => L2.atI xs i
  | .str z, .int i => if z.length ≤ lim then (L2.atI z.cps.toList i).map fun c => .str ⟨#[c]⟩ else none
  | _, _ => none
def cut {α : Type} (xs : List α) (lo hi : Option Int) : List α :=
  (xs.drop (HT.sIx xs.length 0 lo)).take (HT.sIx xs.length xs.length hi - HT.sIx xs.length 0 lo)
def slP : P → Option Int → Option Int → Option P
  | .list xs, lo, hi => some (.list (cut xs lo hi))
  | .tuple xs, lo, hi => some (.tuple (cut xs lo hi))
  | _, _, _ => none
inductive Bi where
  | len | int | abs | max | min | sum | all | any | tuple | list | sorted
  deriving DecidableEq
def maxI : Int → List Int → Int
  | m, [] => m
  | m, x :: r => maxI (if x > m then x else m) r
def minI : Int → List Int → Int
  | m, [] => m
  | m, x :: r => minI (if x < m then x else m) r
/-- items that sorted takes: all of one shape, all tuples with an item, or none a tuple -/
def isTup1 : P → Bool
  | .tuple (_ :: _) => true
  | _ => false
def noTup : P → Bool
  | .tuple _ => false
  | .none => false
  | _ => true
def okSort (xs : List P) : Bool := (xs.all fun a => xs.all fun b => W.alike a b) && (xs.all isTup1 || xs.all noTup) && xs.all fun a => decide (a.depth ≤ 50)
def sortP (xs : List P) : List P := xs.mergeSort (W.dataLe false id)
/-- items that max and min take: all of one shape, none None -/
def isNon : P → Bool
  | .none => true
  | _ => false
def okMx (xs : List P) : Bool := (xs.all fun a => xs.all fun b => W.alike a b) && xs.all fun a => !isNon a && decide (a.depth ≤ 50)
def mxP (f : P → List P → P) : List P → Option P
  | x :: r => if okMx (x :: r) then some (f x r) else none
  | [] => none
def biP : Bi → List P → Option P
  | .len, [.str x] => if x.length ≤ lim then some (.int x.length) else none
  | .len, [.list xs] => some (.int xs.length)
  | .len, [.tuple xs] => some (.int xs.length)
  | .int, [.int i] => some (.int i)
  | .int, [.bool b] => some (.int (if b then 1 else 0))
  | .abs, [.int i] => some (.int (if i < 0 then -i else i))
  | .max, [.int i, .int j] => some (.int (if j > i then j else i))
  | .min, [.int i, .int j] => some (.int (if j < i then j else i))
  | .max, [.list xs] => match ints? xs with
    | some (m :: r) => some (.int (maxI m r))
    | _ => mxP W.maxD xs
  | .max, [.tuple xs] => mxP W.maxD xs
  | .min, [.list xs] => match ints? xs with
    | some (m :: r) => some (.int (minI m r))
    | _ => mxP W.minD xs
  | .min, [.tuple xs] => mxP W.minD xs
  | .sum, [.list xs] => (ints? xs).map fun ns => .int ns.sum
  | .sum, [.tuple xs] => (ints? xs).map fun ns => .int ns.sum
  | .all, [.list xs] => (bools? xs).map fun bs => .bool (bs.all id)
  | .any, [.list xs] => (bools? xs).map fun bs => .bool (bs.any id)
  | .tuple, [.list xs] => some (.tuple xs)
  | .tuple, [.tuple xs] => some (.tuple xs)
  | .list, [.list xs] => some (.list xs)
  | .list, [.tuple xs] => some (.list xs)
  | .sorted, [.list xs] => if okSort xs then some (.list (sortP xs)) else none
  | .sorted, [.tuple xs] => if okSort xs then some (.list (sortP xs)) else none
  | _, _ => none
/-! dicts, keys ints and texts -/
def dkEq : P → P → Bool
  | .int i, .int j => decide (i = j)
  | .str i, .str j => decide (i = j)
  | _, _ => false
def isKey : P → Bool
  | .int _ => true
  | .str _ => true
  | _ => false
def dget (kvs : List (P × P)) (k : P) : Option P := (kvs.find? fun q => dkEq q.1 k).map (·.2)
def dput (kvs : List (P × P)) (k v : P) : List (P × P) := if (dget kvs k).isSome then kvs.map fun q => if dkEq q.1 k then (q.1, v) else q else kvs ++ [(k, v)]
/-- the turns of a range -/
def rng (lo : Int) (c : Int) : Nat → List P
  | 0 => []
  | n + 1 => .int lo :: rng (lo + c) c n
def Sm62 (i : Int) : Prop := -4611686018427387904 ≤ i ∧ i < 4611686018427387904
instance (i : Int) : Decidable (Sm62 i) := Classical.propDecidable _
def rgP : List P → Option (List P)
  | [.int n] => if Sm62 n then some (rng 0 1 n.toNat) else none
  | [.int a, .int b] => if Sm62 a ∧ Sm62 b then some (rng a 1 (b - a).toNat) else none
  | [.int a, .int b, .int c] => if -1000000 < a ∧ a < 1000000 ∧ -1000000 < b ∧ b < 1000000 ∧ 0 < c ∧ c < 1000000 then some (rng a c (if a < b then (b - a - 1) / c + 1 else 0).toNat) else none
  | _ => none
/-! ### trees -/
/-- methods -/
inductive Me where
  | rem | idx | cnt | pop | ext | sd | gt
  deriving DecidableEq
def meN : Me → Str
  | .rem => "remove"
  | .idx => "index"
  | .cnt => "count"
  | .pop => "pop"
  | .ext => "extend"
  | .sd => "setdefault"
  | .gt => "get"
inductive T where
  | c (x : Const) (k : Nat) (p : Pos)
  | v (i : Nat) (x : Str) (p : Pos)
  | g (i : Nat) (x : Str) (p : Pos)
  | tup (a : T) (k : Nat) (p : Pos)
  | lst (m : Bool) (a : T) (p : Pos)
  | ix (a b : T) (p : Pos)
  | sl (a lo hi : T) (p p2 : Pos)
  | rv (a : T) (k : Nat) (p p1 p2 p3 : Pos)
  | bin (a : T) (o : Operator) (b : T) (p : Pos)
  | neg (a : T) (p : Pos)
  | nt (a : T) (p : Pos)
  | cmp (a : T) (o : CmpOp) (b : T) (p : Pos)
  | cm2 (a : T) (o : CmpOp) (b : T) (q : CmpOp) (c : T) (p : Pos)
  | bo (o : BoolOp) (a : T) (p : Pos)
  | ite (c a b : T) (p : Pos)
  | bi (f : Bi) (x : Str) (a : T) (p0 p : Pos)
  | isi (a : T) (ty : Str) (p0 p1 p : Pos)
  | cal (f : Nat) (m : Bool) (x : Str) (a : T) (p0 p : Pos)
  | lrg (x : Str) (a : T) (p0 p1 p2 p : Pos)
  | lzp (a : T) (p0 p1 p2 p : Pos)
  | lsm (a : T) (p0 p : Pos)
  | rpm (a b : T) (p : Pos)
  | cp (m : Bool) (elt tg it cond : T) (sc : Scope) (own : List (Str × Nat)) (p : Pos)
  | cp2 (m : Bool) (elt tg it cond tg1 it1 cond1 : T) (sc : Scope) (own : List (Str × Nat)) (own1 : List Nat) (p : Pos)
  | dcp2 (kx vx tg it cond tg1 it1 cond1 : T) (sc : Scope) (own : List (Str × Nat)) (own1 : List Nat) (p : Pos)
  | ldk (a : T) (p0 p : Pos)
  | app (o e : T) (p0 p : Pos)
  | met (f : Me) (o a : T) (p0 p : Pos)
  | sb (b : Bool) (a : T) (p0 p1 p2 p : Pos)
  | dct0 (p : Pos)
  | dct1 (a b : T) (p : Pos)
  | dcp (kx vx tg it cond : T) (sc : Scope) (own : List (Str × Nat)) (p : Pos)
  | isx (a : T) (D : Str) (p0 p1 p : Pos)
  | vlu (a : T) (p : Pos)
  | mkx (c : Str) (a : T) (p0 p : Pos)
  | shr (a : T) (p0 p : Pos)
  | dv0 (p : Pos)
  | dvc (k : Const) (kk : Nat) (kp : Pos) (v : Const) (vk : Nat) (vp p : Pos)
  | dix (a b : T) (p : Pos)
  | din (n : Bool) (a b : T) (p : Pos)
  | dme (f : Me) (o a : T) (p0 p : Pos)
  -- what is walked
  | pl (e : T)
  | rg (a : T) (p0 p : Pos)
  | en (a : T) (p0 p : Pos)
  | zp (a : T) (p0 p : Pos)
  | ez (a : T) (p0 p1 p2 p : Pos)
  | itm (o : T) (p0 p : Pos)
  | dwk (o : T)
  | dvl (o : T) (p0 p : Pos)
  -- lists
  | nil
  | cons (a b : T)
  | star (a b : T) (p : Pos)
  -- statements
  | as (t e : T) (p : Pos)
  | pa (ts es : T) (k1 k2 : Nat) (p1 p2 p : Pos)
  | ag (t : T) (o : Operator) (e : T) (p : Pos)
  | agI (a b : T) (o : Operator) (e : T) (q p : Pos)
  | iff (c a b : T) (p : Pos)
  | dst (a b e : T) (q p : Pos)
  | das (i : Nat) (x : Str) (px : Pos) (d : T) (p : Pos)
  | dag (a b : T) (o : Operator) (e : T) (q p : Pos)
  | wh (c b : T) (p : Pos)
  | fo (t it b : T) (p : Pos)
  | re (e : T) (p : Pos)
  | exs (e : T) (p : Pos)
  | bk (p : Pos)
  | ct (p : Pos)
  | ps (p : Pos)
  | ra (p : Pos) (e : Expr)
  | rax (c : Str) (a : T) (p0 p1 p : Pos)
  -- what is not reached
  | xs (q : Stmt)
  deriving Inhabited
mutual
/-- the expression -/
def toE : T → Expr
  | .c x k p => .Constant x k p
  | .v _ x p => .Name x p
  | .g _ x p => .Name x p
  | .tup a k p => .Tuple (toEs a) k p
  | .lst _ a p => .List (toEs a) p
  | .ix a b p => .Subscript (toE a) (toE b) p
  | .sl a lo hi p p2 => .Subscript (toE a) (.Slice (toO lo) (toO hi) none p2) p
  | .rv a k p p1 p2 p3 => .Subscript (toE a) (.Slice none none (some (.UnaryOp .USub (.Constant (.int 1) k p1) p2)) p3) p
  | .bin a o b p => .BinOp (toE a) o (toE b) p
  | .neg a p => .UnaryOp .USub (toE a) p
  | .nt a p => .UnaryOp .Not (toE a) p
  | .cmp a o b p => .Compare (toE a) [o] [toE b] p
  | .cm2 a o b q c p => .Compare (toE a) [o, q] [toE b, toE c] p
  | .bo o a p => .BoolOp o (toEs a) p
  | .ite c a b p => .IfExp (toE c) (toE a) (toE b) p
  | .bi _ x a p0 p => .Call (.Name x p0) (toEs a) [] p
  | .isi a ty p0 p1 p => .Call (.Name "isinstance" p0) [toE a, .Name ty p1] [] p
  | .cal _ _ x a p0 p => .Call (.Name x p0) (toEs a) [] p
  | .lrg x a p0 p1 p2 p => .Call (.Name x p0) [.Call (.Name "range" p1) (toEs a) [] p2] [] p
  | .lzp a p0 p1 p2 p => .Call (.Name "list" p0) [.Call (.Name "zip" p1) (toEs a) [] p2] [] p
  | .lsm a p0 p => .Call (.Name "list" p0) (toEs a) [] p
  | .rpm a b p => .BinOp (toE a) .Mult (toE b) p
  | .cp _ elt tg it cond sc _ p => .ListComp (toE elt) [⟨toE tg, toE it, toEs cond, 0⟩] sc p
  | .cp2 _ elt tg it cond tg1 it1 cond1 sc _ _ p => .ListComp (toE elt) [⟨toE tg, toE it, toEs cond, 0⟩, ⟨toE tg1, toE it1, toEs cond1, 0⟩] sc p
  | .dcp2 kx vx tg it cond tg1 it1 cond1 sc _ _ p => .DictComp (toE kx) (toE vx) [⟨toE tg, toE it, toEs cond, 0⟩, ⟨toE tg1, toE it1, toEs cond1, 0⟩] sc p
  | .ldk a p0 p => .Call (.Name "list" p0) (toEs a) [] p
  | .app o e p0 p => .Call (.Attribute (toE o) "append" p0) [toE e] [] p
  | .met f o a p0 p => .Call (.Attribute (toE o) (meN f) p0) (toEs a) [] p
  | .sb b a p0 p1 p2 p => .Call (.Name (if b then "sorted" else "len") p0) [.Call (.Name "set" p1) [toE a] [] p2] [] p
  | .dct0 p => .Dict [] [] p
  | .dct1 a b p => .Dict [some (toE a)] [toE b] p
  | .dcp kx vx tg it cond sc _ p => .DictComp (toE kx) (toE vx) [⟨toE tg, toE it, toEs cond, 0⟩] sc p
  | .isx a D p0 p1 p => .Call (.Name "isinstance" p0) [toE a, .Name D p1] [] p
  | .vlu a p => .Attribute (toE a) "value" p
  | .mkx c a p0 p => .Call (.Name c p0) [toE a] [] p
  | .shr a p0 p => .Call (.Name "repr" p0) [toE a] [] p
  | .dv0 p => .Dict [] [] p
  | .dvc k kk kp v vk vp p => .Dict [some (.Constant k kk kp)] [.Constant v vk vp] p
  | .dix a b p => .Subscript (toE a) (toE b) p
  | .din n a b p => .Compare (toE a) [if n then .NotIn else .In] [toE b] p
  | .dme f o a p0 p => .Call (.Attribute (toE o) (meN f) p0) (toEs a) [] p
  | .itm o p0 p => .Call (.Attribute (toE o) "items" p0) [] [] p
  | .dwk o => toE o
  | .dvl o p0 p => .Call (.Attribute (toE o) "values" p0) [] [] p
  | .pl e => toE e
  | .rg a p0 p => .Call (.Name "range" p0) (toEs a) [] p
  | .en a p0 p => .Call (.Name "enumerate" p0) (toEs a) [] p
  | .zp a p0 p => .Call (.Name "zip" p0) (toEs a) [] p
  | .ez a p0 p1 p2 p => .Call (.Name "enumerate" p0) [.Call (.Name "zip" p1) (toEs a) [] p2] [] p
  | _ => .Constant .none 0 ⟨0, 0, 0, 0⟩
def toO : T → Option Expr
  | .nil => none
  | .pl e => some (toE e)
  | _ => none
def toEs : T → List Expr
  | .nil => []
  | .cons a b => toE a :: toEs b
  | .star a b p => .Starred (toE a) p :: toEs b
  | _ => []
end
mutual
def toS : T → Stmt
  | .as t e p => .Assign [toE t] (toE e) p
  | .pa ts es k1 k2 p1 p2 p => .Assign [.Tuple (toEs ts) k1 p1] (.Tuple (toEs es) k2 p2) p
  | .ag t o e p => .AugAssign (toE t) o (toE e) p
  | .agI a b o e q p => .AugAssign (.Subscript (toE a) (toE b) q) o (toE e) p
  | .das _ x px d p => .Assign [.Name x px] (toE d) p
  | .dst a b e q p => .Assign [.Subscript (toE a) (toE b) q] (toE e) p
  | .dag a b o e q p => .AugAssign (.Subscript (toE a) (toE b) q) o (toE e) p
  | .iff c a b p => .If (toE c) (toSs a) (toSs b) p
  | .wh c b p => .While (toE c) (toSs b) [] p
  | .fo t it b p => .For (toE t) (toE it) (toSs b) [] p
  | .re e p => .Return (some (toE e)) p
  | .exs e p => .Expr (toE e) p
  | .bk p => .Break p
  | .ct p => .Continue p
  | .ps p => .Pass p
  | .ra p e => .Raise (some e) none p
  | .rax c a p0 p1 p => .Raise (some (.Call (.Name c p0) [toE a] [] p1)) none p
  | .xs q => q
  | _ => .Pass ⟨0, 0, 0, 0⟩
def toSs : T → List Stmt
  | .nil => []
  | .cons a b => toS a :: toSs b
  | _ => []
end
/-! ### the evaluator -/
/-- what a tree means as an expression, an argument list, a thing walked, a statement (a block), a target (targets), and | or's rest -/
structure Sm where
  e : En → Sr → R Vl
  a : En → Sr → R (List Vl)
  i : En → Sr → R (List Vl ⊕ Nat)
  s : En → Sr → X
  k : Vl → En → Sr → X
  ks : List Vl → En → Sr → X
  bo : Bool → En → Sr → R Vl
  z : Bool
def Sm.n : Sm := ⟨fun _ _ => .no, fun _ _ => .no, fun _ _ => .no, fun _ _ => .no, fun _ _ _ => .no, fun _ _ _ => .no, fun _ _ _ => .no, false⟩
def ofC : Const → Option P
  | .none => some .none
  | .bool b => some (.bool b)
  | .int i => some (.int i)
  | .str s => some (.str s)
  | _ => none
def truV (v : Vl) (s : Sr) : Option Bool := (dd v s).bind tru
/-- a test -/
def tst (m : R Vl) : R Bool := m.bd fun v s => R.of (truV v s) s
def op2 (f : P → P → Option P) (m : R Vl) (g : Sr → R Vl) : R Vl := m.bd fun x s => (g s).bd fun y s => match dd x s, dd y s with
  | some a, some b => match f a b with
    | some c => .ok (.p c) s
    | none => .no
  | _, _ => .no
def blP (o : Option Bool) : Option P := o.map .bool
def op1 (f : P → Option P) (m : R Vl) : R Vl := m.bd fun x s => match dd x s with
  | some a => match f a with
    | some c => .ok (.p c) s
    | none => .no
  | none => .no
def opL (f : List P → Option P) (m : R (List Vl)) : R Vl := m.bd fun xs s => match ddL xs s with
  | some as => match f as with
    | some c => .ok (.p c) s
    | none => .no
  | none => .no
def negP : P → Option P
  | .int i => some (.int (-i))
  | _ => none
/-- a name of a class -/
inductive Tg where
  | n | b | i | s | l | t | d | x
def tgOf : P → Tg
  | .none => .n
  | .bool _ => .b
  | .int _ => .i
  | .str _ => .s
  | .list _ => .l
  | .tuple _ => .t
  | .dict ((.none, _) :: _) => .x
  | .dict _ => .d
def tyG (g : Tg) (ty : Str) : Option Bool := match g with
  | .n => if ty = "int" ∨ ty = "bool" ∨ ty = "str" ∨ ty = "tuple" ∨ ty = "list" ∨ ty = "dict" then some false else none
  | .b => if ty = "int" ∨ ty = "bool" then some true else if ty = "str" ∨ ty = "tuple" ∨ ty = "list" ∨ ty = "dict" then some false else none
  | .i => if ty = "int" then some true else if ty = "bool" ∨ ty = "str" ∨ ty = "tuple" ∨ ty = "list" ∨ ty = "dict" then some false else none
  | .s => if ty = "str" then some true else if ty = "int" ∨ ty = "bool" ∨ ty = "tuple" ∨ ty = "list" ∨ ty = "dict" then some false else none
  | .t => if ty = "tuple" then some true else if ty = "int" ∨ ty = "bool" ∨ ty = "str" ∨ ty = "list" ∨ ty = "dict" then some false else none
  | .l => if ty = "list" then some true else if ty = "int" ∨ ty = "bool" ∨ ty = "str" ∨ ty = "tuple" ∨ ty = "dict" then some false else none
  | .d => if ty = "dict" then some true else if ty = "int" ∨ ty = "bool" ∨ ty = "str" ∨ ty = "tuple" ∨ ty = "list" then some false else none
  | .x => none
def tyP (ty : Str) (x : P) : Option Bool := tyG (tgOf x) ty
/-- calls: the args' refs, the callee's own store, what is handed back -/
def refs : List Vl → List Nat
  | [] => []
  | .p _ :: r => refs r
  | .r n :: r => n :: (refs r).filter (· != n)
def inArgs (rs : List Nat) : List Vl → List Vl
  | [] => []
  | .p x :: r => .p x :: inArgs rs r
  | .r n :: r => .r (rs.idxOf n) :: inArgs rs r
def plainOb : Ob → Bool
  | .lp z _ => z == 0
  | .dp z _ => z == 0
  | _ => false
def back : List Nat → List Ob → Sr → Sr
  | [], _, s => s
  | _ :: _, [], s => s
  | n :: r, o :: os, s => back r os (s.set n o)
def callW (F : List Vl → Sr → R Vl) (m : Bool) (args : List Vl) (s : Sr) : R Vl :=
  let rs := refs args
  let loc := rs.map fun n => s.getD n .no
  if loc.all plainOb then
    match F (inArgs rs args) loc with
    | .ok (.p x) l => .ok (.p x) (back rs l s)
    | .ok (.r j) l => match l[j]? with
      | some (.lp z xs) =>
        if j < rs.length then .ok (.r (rs.getD j 0)) (back rs l s)
        else if m then (if z = 0 then .ok (.r s.length) (back rs l s ++ [.lp 0 xs]) else .no) else .ok (.p (.list xs)) (back rs l s)
      | some (.dp z xs) =>
        if j < rs.length then .ok (.r (rs.getD j 0)) (back rs l s)
        else if z = 0 then .ok (.r s.length) (back rs l s ++ [.dp 0 xs]) else .no
      | _ => .no
    | .ex c x l => .ex c x (back rs l s)
    | .no => .no
  else .no
/-- for over a list of values -/
def forL (tg : Vl → En → Sr → X) (body : En → Sr → X) : List Vl → En → Sr → X
  | [], e, s => .nx e s
  | v :: r, e, s => match tg v e s with
    | .nx e s => match body e s with
      | .nx e s => forL tg body r e s
      | .ct e s => forL tg body r e s
      | .bk e s => .nx e s
      | x => x
    | _ => .no
/-- for over a list of the store, read anew at each turn -/
def forR (tg : Vl → En → Sr → X) (body : En → Sr → X) (n : Nat) : Nat → Nat → En → Sr → X
  | 0, _, _, _ => .no
  | k + 1, i, e, s =>
    let go : Vl → X := fun v => match tg v e s with
      | .nx e s => match body e s with
        | .nx e s => forR tg body n k (i + 1) e s
        | .ct e s => forR tg body n k (i + 1) e s
        | .bk e s => .nx e s
        | x => x
      | _ => .no
    match s[n]? with
    | some (.lp _ xs) => match xs[i]? with
      | some x => go (.p x)
      | none => .nx e s
    | some (.lr xs) => match xs[i]? with
      | some m => go (.r m)
      | none => .nx e s
    | _ => .no
/-- a comprehension over a list of values -/
def cpL (tg : Vl → En → Sr → X) (cond : En → Sr → R Bool) (elt : En → Sr → R Vl) (e : En) : List Vl → Sr → R (List P)
  | [], s => .ok [] s
  | v :: r, s => match tg v e s with
    | .nx e' s => match cond e' s with
      | .ok true s => match elt e' s with
        | .ok w s => match toP w s with
          | some (x, s) => match cpL tg cond elt e r s with
            | .ok xs s => .ok (x :: xs) s
            | _ => .no
          | none => .no
        | _ => .no
      | .ok false s => cpL tg cond elt e r s
      | _ => .no
    | _ => .no
def cpR (tg : Vl → En → Sr → X) (cond : En → Sr → R Bool) (elt : En → Sr → R Vl) (n : Nat) (e : En) : Nat → Nat → Sr → R (List P)
  | 0, _, _ => .no
  | k + 1, i, s =>
    let go : Vl → R (List P) := fun v => match tg v e s with
      | .nx e' s => match cond e' s with
        | .ok true s => match elt e' s with
          | .ok w s => match toP w s with
            | some (x, s) => match cpR tg cond elt n e k (i + 1) s with
              | .ok xs s => .ok (x :: xs) s
              | _ => .no
            | none => .no
          | _ => .no
        | .ok false s => cpR tg cond elt n e k (i + 1) s
        | _ => .no
      | _ => .no
    match s[n]? with
    | some (.lp _ xs) => match xs[i]? with
      | some x => go (.p x)
      | none => .ok [] s
    | some (.lr xs) => match xs[i]? with
      | some m => go (.r m)
      | none => .ok [] s
    | _ => .no
/-- while: n turns at most -/
def whN (c : En → Sr → R Bool) (b : En → Sr → X) : Nat → En → Sr → X
  | 0, _, _ => .no
  | n + 1, e, s => match c e s with
    | .ok true s => match b e s with
      | .nx e s => whN c b n e s
      | .ct e s => whN c b n e s
      | .bk e s => .nx e s
      | x => x
    | .ok false s => .nx e s
    | .ex c x s => .ex c x s
    | .no => .no
open Classical in
def whC (c : En → Sr → R Bool) (b : En → Sr → X) (e : En) (s : Sr) : X :=
  if h : ∃ n, whN c b n e s ≠ .no then whN c b h.choose e s else .no
/-- values out of one that is unpacked -/
def outOf : Vl → Sr → Option (List Vl)
  | .p (.tuple xs), _ => some (xs.map .p)
  | _, _ => none
/-- o[i] = v -/
def setIx (o i v : Vl) (s : Sr) : Option Sr := match o with
  | .r n => match s[n]?, i with
    | some (.lp 0 xs), .p (.int k) => match L2.ixN xs.length k, toP v s with
      | some j, some (x, s) => match s[n]? with
        | some (.lp 0 xs) => some (s.set n (.lp 0 (xs.set j x)))
        | _ => none
      | _, _ => none
    | _, _ => none
  | _ => none
def appV (o v : Vl) (s : Sr) : Option Sr := match o with
  | .r n => match s[n]?, v with
    | some (.lr xs), .r m => if xs.length < lim then some (s.set n (.lr (xs ++ [m]))) else none
    | some (.lp 0 _), v => match toP v s with
      | some (x, s) => match s[n]? with
        | some (.lp 0 xs) => if xs.length < lim then some (s.set n (.lp 0 (xs ++ [x]))) else none
        | _ => none
      | none => none
    | _, _ => none
  | _ => none
def augP : Operator → P → P → Option P
  | .Add, .int i, .int j => some (.int (i + j))
  | .Sub, .int i, .int j => some (.int (i - j))
  | .Mult, .int i, .int j => if MulOk i j then some (.int (i * j)) else none
  | _, _, _ => none
def bigN : Nat := 1000000
@[simp] def isDp (s : Sr) (n : Nat) : Bool := match s[n]? with
  | some (.dp _ _) => true
  | _ => false
@[simp] def isL : Vl → Sr → Bool
  | .r n, s => !isDp s n
  | _, _ => false
def itOf (v : Vl) (s : Sr) : R (List Vl ⊕ Nat) := match v with
  | .p (.list xs) => .ok (.inl (xs.map .p)) s
  | .p (.tuple xs) => .ok (.inl (xs.map .p)) s
  | .r n => if isDp s n = true then .no else .ok (.inr n) s
  | _ => .no
/-- what a list or a tuple holds -/
def seqP : P → Option (List P)
  | .list xs => some xs
  | .tuple xs => some xs
  | _ => none
def enumP : Nat → List P → List Vl
  | _, [] => []
  | k, x :: r => .p (.tuple [.int (k : Nat), x]) :: enumP (k + 1) r
def zipP : List P → List P → List Vl
  | x :: r, y :: q => .p (.tuple [x, y]) :: zipP r q
  | _, _ => []
def orP (m : R Vl) (f : Sr → R Vl) (b : Bool) : R Vl := m.bd fun v s => match truV v s with
  | some c => if c = b then .ok v s else f s
  | none => .no
/-- several targets, one behind the other -/
def X.th (x : X) (f : En → Sr → X) : X := match x with
  | .nx e s => f e s
  | x => x
def oneInt : R Vl → R (Option Int) := fun m => m.bd fun v s => match v with
  | .p (.int i) => .ok (some i) s
  | _ => .no
/-! ### what each tree does, by what its parts do -/
def eC (x : Const) : En → Sr → R Vl := fun _ s => R.of ((ofC x).map .p) s
def eV (i : Nat) : En → Sr → R Vl := fun e s =>
  match e[i]? with
  | some (some v) => .ok v s
  | _ => .no
def kV (i : Nat) : Vl → En → Sr → X := fun v e s => .nx (e.set i (some v)) s
def eG (gl : List P) (i : Nat) : En → Sr → R Vl := fun _ s => R.of (gl[i]?.map .p) s
def mkTup (vs : List Vl) (s : Sr) : R Vl :=
  match toPL vs s with
  | some (xs, s) => if xs.length ≤ lim then .ok (.p (.tuple xs)) s else .no
  | none => .no
def eTup (a : Sm) : En → Sr → R Vl := fun e s => (a.a e s).bd mkTup
/-- how many stand in a list of trees -/
def cnt : T → Nat
  | .cons _ b => cnt b + 1
  | _ => 0
def kTup (n : Nat) (a : Sm) : Vl → En → Sr → X := fun v e s =>
  match outOf v s with
  | some vs => if vs.length = n then a.ks vs e s else .no
  | none => .no
def mkLst (m : Bool) (xs : List P) (s : Sr) : R Vl := if m then .ok (.r s.length) (s ++ [.lp 0 xs]) else .ok (.p (.list xs)) s
def mkLstV (m : Bool) (vs : List Vl) (s : Sr) : R Vl :=
  match toPL vs s with
  | some (xs, s) => if xs.length ≤ lim then mkLst m xs s else .no
  | none => .no
def eLst (m : Bool) (a : Sm) : En → Sr → R Vl := fun e s => (a.a e s).bd (mkLstV m)
def ixV (o i : Vl) (s : Sr) : R Vl :=
  match dd i s with
  | some (.int k) =>
    match o with
    | .p x => R.of ((ixP x (.int k)).map .p) s
    | .r n =>
      match s[n]? with
      | some (.lp _ xs) => R.of ((L2.atI xs k).map .p) s
      | some (.lr xs) => R.of ((L2.atI xs k).map .r) s
      | _ => .no
  | _ => .no
def eIx (a b : Sm) : En → Sr → R Vl := fun e s => (a.e e s).bd fun o s => (b.e e s).bd fun i s => ixV o i s
def kIx (a b : Sm) : Vl → En → Sr → X := fun v e s => (a.e e s).bx fun o s => (b.e e s).bx fun i s =>
  match setIx o i v s with
  | some s => .nx e s
  | none => .no
def eOpt (a : Sm) : En → Sr → R (Option Int) := fun e s => if a.z then .ok none s else oneInt (a.e e s)
def eSl (a lo hi : Sm) : En → Sr → R Vl := fun e s => (a.e e s).bd fun o s => (eOpt lo e s).bd fun l s => (eOpt hi e s).bd fun h s => R.of (((dd o s).bind fun x => slP x l h).map .p) s
def rvP : P → Option P
  | .list xs => some (.list xs.reverse)
  | .tuple xs => some (.tuple xs.reverse)
  | _ => none
def eRv (a : Sm) : En → Sr → R Vl := fun e s => op1 rvP (a.e e s)
def eBin (o : Operator) (a b : Sm) : En → Sr → R Vl := fun e s => op2 (binP o) (a.e e s) fun s => b.e e s
def eNeg (a : Sm) : En → Sr → R Vl := fun e s => op1 negP (a.e e s)
def eNt (a : Sm) : En → Sr → R Vl := fun e s => (tst (a.e e s)).bd fun b s => .ok (.p (.bool !b)) s
def eCmp (o : CmpOp) (a b : Sm) : En → Sr → R Vl := fun e s => op2 (fun x y => blP (cmpP o x y)) (a.e e s) fun s => b.e e s
def lnk (o : CmpOp) (x y : Vl) (s : Sr) : Option Bool :=
  match dd x s, dd y s with
  | some x, some y => cmpP o x y
  | _, _ => none
def eCm2 (o q : CmpOp) (a b c : Sm) : En → Sr → R Vl := fun e s => (a.e e s).bd fun x s => (b.e e s).bd fun y s =>
  match lnk o x y s with
  | some true => (c.e e s).bd fun w s => R.of ((blP (lnk q y w s)).map .p) s
  | some false => .ok (.p (.bool false)) s
  | none => .no
def eIte (c a b : Sm) : En → Sr → R Vl := fun e s => (tst (c.e e s)).bd fun k s => if k then a.e e s else b.e e s
def eBi (f : Bi) (a : Sm) : En → Sr → R Vl := fun e s => opL (biP f) (a.a e s)
def eIsi (ty : Str) (a : Sm) : En → Sr → R Vl := fun e s => op1 (fun x => blP (tyP ty x)) (a.e e s)
def eCal (F : List Vl → Sr → R Vl) (m : Bool) (a : Sm) : En → Sr → R Vl := fun e s => (a.a e s).bd fun vs s => callW F m vs s
/-- list(a), [..] * n, to be changed -/
def lsmV (vs : List Vl) (s : Sr) : R Vl := match ddL vs s with
  | some [.list xs] => mkLst true xs s
  | some [.tuple xs] => mkLst true xs s
  | _ => .no
def eLsm (a : Sm) : En → Sr → R Vl := fun e s => (a.a e s).bd lsmV
def rpmV (v w : Vl) (s : Sr) : R Vl := match dd v s, dd w s with
  | some (.list xs), some (.int k) => if 0 ≤ k ∧ k ≤ lim ∧ xs.length * k.toNat ≤ lim then mkLst true (rep xs k.toNat) s else .no
  | _, _ => .no
def eRpm (a b : Sm) : En → Sr → R Vl := fun e s => (a.e e s).bd fun v s => (b.e e s).bd fun w s => rpmV v w s
def lrgP (xs : List P) : Option P := if xs.length = 3 then none else (rgP xs).bind fun ys => if ys.length ≤ lim then some (.list ys) else none
/-- what a zip of two tuples gives, as a list -/
def zpP : List P → List P → List P
  | x :: xs, y :: ys => .tuple [x, y] :: zpP xs ys
  | _, _ => []
def lzpP : List P → Option P
  | [.tuple xs, .tuple ys] => if xs.length < 1000000 then some (.list (zpP xs ys)) else none
  | _ => none
def eLzp (a : Sm) : En → Sr → R Vl := fun e s => opL lzpP (a.a e s)
def eLrg (a : Sm) : En → Sr → R Vl := fun e s => opL lrgP (a.a e s)
def cnd (c : Sm) : En → Sr → R Bool := fun e s => if c.z then .ok true s else tst (c.e e s)
def cpAll (tg cond elt : Sm) (e : En) (w : List Vl ⊕ Nat) (s : Sr) : R (List P) :=
  match w with
  | .inl vs => if vs.length ≤ lim then cpL tg.k (cnd cond) elt.e e vs s else .no
  | .inr n => cpR tg.k (cnd cond) elt.e n e bigN 0 s
/-- a block's own names stand empty at its turns -/
def wipeE (e : En) : List Nat → En
  | [] => e
  | v :: vs => (wipeE e vs).set v none
/-- one turn of a comprehension, by the value that comes: what the rest gives -/
def cpT (tg : Vl → En → Sr → X) (cond : En → Sr → R Bool) (elt : En → Sr → R Vl) (e : En) (v : Vl) (s : Sr) (rest : Sr → R (List P)) : R (List P) := match tg v e s with
    | .nx e' s => match cond e' s with
      | .ok true s => match elt e' s with
        | .ok w s => match toP w s with
          | some (x, s) => match rest s with
            | .ok xs s => .ok (x :: xs) s
            | _ => .no
          | none => .no
        | _ => .no
      | .ok false s => rest s
      | _ => .no
    | _ => .no
/-- a second clause, then the rest -/
def cpK (tg : Vl → En → Sr → X) (cond : En → Sr → R Bool) (elt : En → Sr → R Vl) (e : En) : List Vl → (Sr → R (List P)) → Sr → R (List P)
  | [], rest, s => rest s
  | v :: r, rest, s => cpT tg cond elt e v s (cpK tg cond elt e r rest)
/-- the first clause's turn: what the second gives, by the rest -/
def cp2T {α : Type} (tg : Vl → En → Sr → X) (cond : En → Sr → R Bool) (it1 : En → Sr → R (List Vl ⊕ Nat)) (own1 : List Nat) (e : En) (v : Vl) (s : Sr) (inn : En → List Vl → Sr → R α) (rest : Sr → R α) : R α := match tg v e s with
    | .nx e1 s => match cond e1 s with
      | .ok true s => match it1 e1 s with
        | .ok (.inl ws) s => inn (wipeE e1 own1) ws s
        | _ => .no
      | .ok false s => rest s
      | _ => .no
    | _ => .no
def cp2L (tg : Vl → En → Sr → X) (cond : En → Sr → R Bool) (it1 : En → Sr → R (List Vl ⊕ Nat)) (tg1 : Vl → En → Sr → X) (cond1 : En → Sr → R Bool) (elt : En → Sr → R Vl) (own1 : List Nat) (e : En) : List Vl → Sr → R (List P)
  | [], s => .ok [] s
  | v :: r, s => cp2T tg cond it1 own1 e v s (fun e1 ws => cpK tg1 cond1 elt e1 ws (cp2L tg cond it1 tg1 cond1 elt own1 e r)) (cp2L tg cond it1 tg1 cond1 elt own1 e r)
def cp2All (tg cond it1 tg1 cond1 elt : Sm) (own1 : List Nat) (e : En) (w : List Vl ⊕ Nat) (s : Sr) : R (List P) :=
  match w with
  | .inl vs => cp2L tg.k (cnd cond) it1.i tg1.k (cnd cond1) elt.e own1 e vs s
  | .inr _ => .no
def mkLs2 (m : Bool) (xs : List P) (s : Sr) : R Vl := if xs.length ≤ lim then (if m then .ok (.r s.length) (s ++ [.lp 0 xs]) else .ok (.p (.list xs)) s) else .no
def eCp2 (m : Bool) (elt tg it cond tg1 it1 cond1 : Sm) (own own1 : List Nat) : En → Sr → R Vl := fun e s => (it.i e s).bd fun w s => (cp2All tg cond it1 tg1 cond1 elt own1 (wipeE e own) w s).bd fun xs s => mkLs2 m xs s
def eCp (m : Bool) (elt tg it cond : Sm) (own : List Nat) : En → Sr → R Vl := fun e s => (it.i e s).bd fun w s => (cpAll tg cond elt (wipeE e own) w s).bd fun xs s => mkLst m xs s
def isR : Vl → Bool
  | .r _ => true
  | _ => false
def eApp (o x : Sm) : En → Sr → R Vl := fun e s => (o.e e s).bd fun o s => if isL o s = true then (x.e e s).bd fun v s => R.of ((appV o v s).map fun _ => Vl.p .none) ((appV o v s).getD s) else .no
/-- the distinct ones -/
def dst : List Int → List Int
  | [] => []
  | x :: r => if x ∈ r then dst r else x :: dst r
def insI (x : Int) : List Int → List Int
  | [] => [x]
  | y :: r => if x < y then x :: y :: r else if x = y then y :: r else y :: insI x r
/-- the distinct ones, ascending -/
def srt : List Int → List Int
  | [] => []
  | x :: r => insI x (srt r)
def sbP (b : Bool) (x : P) : Option P :=
  match (seqP x).bind ints? with
  | some ns => if ns.length < 60 then some (if b then .list ((srt ns).map .int) else .int (dst ns).length) else none
  | none => none
def eSb (b : Bool) (a : Sm) : En → Sr → R Vl := fun e s => op1 (sbP b) (a.e e s)
def remV (v : Vl) (vs : List Vl) (s : Sr) : Option Sr :=
  match v, ddL vs s with
  | .r n, some [.int k] =>
    match s[n]? with
    | some (.lp 0 xs) =>
      match ints? xs with
      | some ns => if k ∈ ns then some (s.set n (.lp 0 ((ns.erase k).map .int))) else none
      | none => none
    | _ => none
  | _, _ => none
def popV (v : Vl) (vs : List Vl) (s : Sr) : Option (P × Sr) :=
  match v, ddL vs s with
  | .r n, some [.int i] =>
    match s[n]? with
    | some (.lp 0 xs) =>
      match L2.ixN xs.length i with
      | some k => if xs.length ≤ lim then (xs[k]?).map fun y => (y, s.set n (.lp 0 (xs.eraseIdx k))) else none
      | none => none
    | _ => none
  | _, _ => none
def extV (v : Vl) (vs : List Vl) (s : Sr) : Option Sr :=
  match v, ddL vs s with
  | .r n, some [.list ys] =>
    match s[n]? with
    | some (.lp 0 xs) => if xs.length + ys.length ≤ lim then some (s.set n (.lp 0 (xs ++ ys))) else none
    | _ => none
  | _, _ => none
def meV : Me → Vl → List Vl → Sr → R Vl
  | .pop, v, vs, s =>
    match popV v vs s with
    | some (y, s) => .ok (.p y) s
    | none => .no
  | .ext, v, vs, s =>
    match extV v vs s with
    | some s => .ok (.p .none) s
    | none => .no
  | .rem, v, vs, s =>
    match remV v vs s with
    | some s => .ok (.p .none) s
    | none => .no
  | _, _, _, _ => .no
def agV (o : Operator) (v w : Vl) (s : Sr) : Option P :=
  match v, dd w s with
  | .p a, some b => augP o a b
  | _, _ => none
/-! dicts: what is done with them -/
def dat (o : Vl) (s : Sr) : Option (List (P × P)) := match o with
  | .r n => match s[n]? with
    | some (.dp _ kvs) => some kvs
    | _ => none
  | _ => none
def dat0 (o : Vl) (s : Sr) : Bool := match o with
  | .r n => match s[n]? with
    | some (.dp 0 _) => true
    | _ => false
  | _ => false
def key? (v : Vl) : Option P := match v with
  | .p k => if isKey k = true then some k else none
  | _ => none
def dixV (o i : Vl) (s : Sr) : Option P := match dat o s, key? i with
  | some kvs, some k => dget kvs k
  | _, _ => none
def eDix (a b : Sm) : En → Sr → R Vl := fun e s => (a.e e s).bd fun o s => (b.e e s).bd fun i s => R.of ((dixV o i s).map .p) s
def dinV (n : Bool) (x o : Vl) (s : Sr) : Option Bool := match dat o s, key? x with
  | some kvs, some k => some ((dget kvs k).isSome != n)
  | _, _ => none
def eDin (n : Bool) (a b : Sm) : En → Sr → R Vl := fun e s => (a.e e s).bd fun x s => (b.e e s).bd fun o s => R.of ((dinV n x o s).map fun b => .p (.bool b)) s
def dputV (o i v : Vl) (s : Sr) : Option Sr := match o, key? i, v with
  | .r n, some k, .p x => match s[n]? with
    | some (.dp 0 kvs) => if kvs.length < lim then some (s.set n (.dp 0 (dput kvs k x))) else none
    | _ => none
  | _, _, _ => none
def sDst (a b x : Sm) : En → Sr → X := fun e s => (x.e e s).bx fun v s => (a.e e s).bx fun o s => (b.e e s).bx fun i s => match dputV o i v s with
  | some s => .nx e s
  | none => .no
def sDag (o : Operator) (a b x : Sm) : En → Sr → X := fun e s => (a.e e s).bx fun l s => (b.e e s).bx fun i s => match dixV l i s with
  | some v => (x.e e s).bx fun w s => match agV o (.p v) w s with
    | some c => match dputV l i (.p c) s with
      | some s => .nx e s
      | none => .no
    | none => .no
  | none => .no
def sdV (o k v : Vl) (s : Sr) : R Vl := match v with
  | .p v => match dputV o k (.p v) s with
    | some s' => match dixV o k s with
      | some x => .ok (.p x) s
      | none => .ok (.p v) s'
    | none => .no
  | _ => .no
def gtV (o k d : Vl) (s : Sr) : R Vl := match dat o s, key? k with
  | some kvs, some k => match dget kvs k with
    | some x => .ok (.p x) s
    | none => .ok d s
  | _, _ => .no
def dmeV (f : Me) (o : Vl) (vs : List Vl) (s : Sr) : R Vl := match f with
  | .sd => match vs with
    | [k, v] => sdV o k v s
    | _ => .no
  | .gt => match vs with
    | [k] => gtV o k (.p .none) s
    | [k, d] => gtV o k d s
    | _ => .no
  | _ => .no
def eDme (f : Me) (o a : Sm) : En → Sr → R Vl := fun e s => (o.e e s).bd fun o s => if dat0 o s = true then (a.a e s).bd fun vs s => dmeV f o vs s else .no
def eD0 : En → Sr → R Vl := fun _ s => .ok (.r s.length) (s ++ [.dp 0 []])
def mkD1 (x y : Vl) (s : Sr) : R Vl := match key? x, y with
  | some k, .p v => .ok (.r s.length) (s ++ [.dp 0 [(k, v)]])
  | _, _ => .no
def eD1 (a b : Sm) : En → Sr → R Vl := fun e s => match a.e e s with
  | .ok x s => match b.e e s with
    | .ok y s => mkD1 x y s
    | _ => .no
  | _ => .no
def dcL (tg : Vl → En → Sr → X) (cond : En → Sr → R Bool) (kx vx : En → Sr → R Vl) (e : En) : List Vl → List (P × P) → Sr → R (List (P × P))
  | [], acc, s => .ok acc s
  | v :: r, acc, s => match tg v e s with
    | .nx e' s => match cond e' s with
      | .ok true s => match kx e' s with
        | .ok k s => match vx e' s with
          | .ok (.p x) s => match key? k with
            | some k => if acc.length < lim then dcL tg cond kx vx e r (dput acc k x) s else .no
            | none => .no
          | _ => .no
        | _ => .no
      | .ok false s => dcL tg cond kx vx e r acc s
      | _ => .no
    | _ => .no
/-- one turn of a dict comprehension, by the value that comes: what the rest gives -/
def dcT (tg : Vl → En → Sr → X) (cond : En → Sr → R Bool) (kx vx : En → Sr → R Vl) (e : En) (v : Vl) (acc : List (P × P)) (s : Sr) (rest : List (P × P) → Sr → R (List (P × P))) : R (List (P × P)) := match tg v e s with
    | .nx e' s => match cond e' s with
      | .ok true s => match kx e' s with
        | .ok k s => match vx e' s with
          | .ok (.p x) s => match key? k with
            | some k => if acc.length < lim then rest (dput acc k x) s else .no
            | none => .no
          | _ => .no
        | _ => .no
      | .ok false s => rest acc s
      | _ => .no
    | _ => .no
/-- a second clause of a dict comprehension, then the rest -/
def dcK (tg : Vl → En → Sr → X) (cond : En → Sr → R Bool) (kx vx : En → Sr → R Vl) (e : En) : List Vl → (List (P × P) → Sr → R (List (P × P))) → List (P × P) → Sr → R (List (P × P))
  | [], rest, acc, s => rest acc s
  | v :: r, rest, acc, s => dcT tg cond kx vx e v acc s (dcK tg cond kx vx e r rest)
def dc2L (tg : Vl → En → Sr → X) (cond : En → Sr → R Bool) (it1 : En → Sr → R (List Vl ⊕ Nat)) (tg1 : Vl → En → Sr → X) (cond1 : En → Sr → R Bool) (kx vx : En → Sr → R Vl) (own1 : List Nat) (e : En) : List Vl → List (P × P) → Sr → R (List (P × P))
  | [], acc, s => .ok acc s
  | v :: r, acc, s => cp2T tg cond it1 own1 e v s (fun e1 ws s => dcK tg1 cond1 kx vx e1 ws (dc2L tg cond it1 tg1 cond1 kx vx own1 e r) acc s) (dc2L tg cond it1 tg1 cond1 kx vx own1 e r acc)
def dc2All (tg cond it1 tg1 cond1 kx vx : Sm) (own1 : List Nat) (e : En) (w : List Vl ⊕ Nat) (s : Sr) : R (List (P × P)) := match w with
  | .inl vs => dc2L tg.k (cnd cond) it1.i tg1.k (cnd cond1) kx.e vx.e own1 e vs [] s
  | .inr _ => .no
def eDc2 (kx vx tg it cond tg1 it1 cond1 : Sm) (own own1 : List Nat) : En → Sr → R Vl := fun e s => (it.i e s).bd fun w s => (dc2All tg cond it1 tg1 cond1 kx vx own1 (wipeE e own) w s).bd fun kvs s => .ok (.r s.length) (s ++ [.dp 0 kvs])
def dcAll (tg cond kx vx : Sm) (e : En) (w : List Vl ⊕ Nat) (s : Sr) : R (List (P × P)) := match w with
  | .inl vs => dcL tg.k (cnd cond) kx.e vx.e e vs [] s
  | .inr _ => .no
def eDc (kx vx tg it cond : Sm) (own : List Nat) : En → Sr → R Vl := fun e s => (it.i e s).bd fun w s => (dcAll tg cond kx vx (wipeE e own) w s).bd fun kvs s => .ok (.r s.length) (s ++ [.dp 0 kvs])
/-- a dict that is walked stays as it is from then on -/
def wkL (b : Bool) (kvs : List (P × P)) : List Vl := kvs.map fun q => .p (if b then .tuple [q.1, q.2] else q.1)
def wkV (b : Bool) (v : Vl) (s : Sr) : R (List Vl ⊕ Nat) := match v with
  | .r n => match s[n]? with
    | some (.dp 0 kvs) => .ok (.inl (wkL b kvs)) (s.set n (.dp 1 kvs))
    | some (.dp (_ + 1) kvs) => .ok (.inl (wkL b kvs)) s
    | _ => .no
  | _ => .no
def iWk (b : Bool) (x : Sm) : En → Sr → R (List Vl ⊕ Nat) := fun e s => (x.e e s).bd fun v s => wkV b v s
/-- list(d): the keys -/
def ldkV (vs : List Vl) (s : Sr) : R Vl := match vs with
  | [v] => match dat v s with
    | some kvs => .ok (.p (.list (kvs.map (·.1)))) s
    | none => .no
  | _ => .no
def eLdk (a : Sm) : En → Sr → R Vl := fun e s => (a.a e s).bd ldkV
/-- d.values(), walked: the dict stays as it is from then on -/
def dvlV (v : Vl) (s : Sr) : R (List Vl ⊕ Nat) := match v with
  | .r n => match s[n]? with
    | some (.dp 0 kvs) => .ok (.inl (kvs.map fun q => .p q.2)) (s.set n (.dp 1 kvs))
    | some (.dp (_ + 1) kvs) => .ok (.inl (kvs.map fun q => .p q.2)) s
    | _ => .no
  | _ => .no
def iDvl (x : Sm) : En → Sr → R (List Vl ⊕ Nat) := fun e s => (x.e e s).bd fun v s => dvlV v s
def eMet (f : Me) (o a : Sm) : En → Sr → R Vl := fun e s => (o.e e s).bd fun o s => if isL o s = true then (a.a e s).bd fun vs s => meV f o vs s else .no
def iPl (x : Sm) : En → Sr → R (List Vl ⊕ Nat) := fun e s => (x.e e s).bd fun v s => itOf v s
def iRg (a : Sm) : En → Sr → R (List Vl ⊕ Nat) := fun e s => (a.a e s).bd fun vs s => R.of (((ddL vs s).bind rgP).map fun xs => .inl (xs.map .p)) s
def enV (vs : List Vl) : Option (List Vl ⊕ Nat) :=
  match vs with
  | [.p (.list xs)] => some (.inl (enumP 0 xs))
  | [.p (.tuple xs)] => some (.inl (enumP 0 xs))
  | _ => none
def ezV : List Vl → Option (List Vl ⊕ Nat)
  | [.p (.tuple xs), .p (.tuple ys)] => some (.inl (enumP 0 (zpP xs ys)))
  | _ => none
def iEz (a : Sm) : En → Sr → R (List Vl ⊕ Nat) := fun e s => (a.a e s).bd fun vs s => R.of (ezV vs) s
def iEn (a : Sm) : En → Sr → R (List Vl ⊕ Nat) := fun e s => (a.a e s).bd fun vs s => R.of (enV vs) s
def zpV (vs : List Vl) : Option (List Vl ⊕ Nat) :=
  match vs with
  | [.p (.list xs), .p (.list ys)] => some (.inl (zipP xs ys))
  | [.p (.tuple xs), .p (.tuple ys)] => some (.inl (zipP xs ys))
  | _ => none
def iZp (a : Sm) : En → Sr → R (List Vl ⊕ Nat) := fun e s => (a.a e s).bd fun vs s => R.of (zpV vs) s
def aCons (a b : Sm) : En → Sr → R (List Vl) := fun e s => (a.e e s).bd fun v s => (b.a e s).bd fun vs s => .ok (v :: vs) s
def ksCons (a b : Sm) : List Vl → En → Sr → X := fun vs e s =>
  match vs with
  | v :: r => (a.k v e s).th fun e s => b.ks r e s
  | [] => .no
def boCons (a b : Sm) : Bool → En → Sr → R Vl := fun k e s => if b.z then a.e e s else orP (a.e e s) (fun s => b.bo k e s) k
def ksNil : List Vl → En → Sr → X := fun vs e s =>
  match vs with
  | [] => .nx e s
  | _ => .no
def aStar (a b : Sm) : En → Sr → R (List Vl) := fun e s => (a.e e s).bd fun v s => match (dd v s).bind seqP with
  | some xs => (b.a e s).bd fun vs s => .ok (xs.map .p ++ vs) s
  | none => .no
def sAs (t x : Sm) : En → Sr → X := fun e s => (x.e e s).bx fun v s => t.k v e s
def sPa (ts es : Sm) : En → Sr → X := fun e s => (es.a e s).bx fun vs s => ts.ks vs e s
def sAg (o : Operator) (t x : Sm) : En → Sr → X := fun e s => (t.e e s).bx fun v s => (x.e e s).bx fun w s =>
  match agV o v w s with
  | some c => t.k (.p c) e s
  | none => .no
def sAgI (o : Operator) (a b x : Sm) : En → Sr → X := fun e s => (a.e e s).bx fun l s => (b.e e s).bx fun i s => if isR l then (ixV l i s).bx fun v s => (x.e e s).bx fun w s =>
  match agV o v w s with
  | some c => match setIx l i (.p c) s with
    | some s => .nx e s
    | none => .no
  | none => .no
  else .no
def sIf (c a b : Sm) : En → Sr → X := fun e s => (tst (c.e e s)).bx fun k s => if k then a.s e s else b.s e s
def sWh (c b : Sm) : En → Sr → X := whC (fun e s => tst (c.e e s)) b.s
def sFo (t it b : Sm) : En → Sr → X := fun e s => (it.i e s).bx fun w s =>
  match w with
  | .inl vs => forL t.k b.s vs e s
  | .inr n => forR t.k b.s n bigN 0 e s
def sRe (x : Sm) : En → Sr → X := fun e s => (x.e e s).bx fun v s => .rt v s
def sEx (x : Sm) : En → Sr → X := fun e s => (x.e e s).bx fun _ s => .nx e s
/-- an exception as data: its class, its value; a third place where its args are not told -/
def exP (c : Str) (x : P) (q : List (P × P)) : P := .dict ((.none, .str c) :: (.none, x) :: q)
/-- isinstance(x, a class of errors | ValueError) -/
def isxP (D : Str) : P → Option Bool
  | .dict ((.none, .str c) :: _) => some (decide (c = D) || D == "CellarError" || D == "ValueError")
  | .dict ((.none, _) :: _) => none
  | _ => some false
def mkxV (c : Str) (v : Vl) (s : Sr) : R Vl := match toP v s with
  | some (x, s) => .ok (.p (exP c x [])) s
  | none => .no
def valP : P → Option P
  | .dict ((.none, .str _) :: (.none, x) :: _) => some x
  | _ => none
def leaf : P → Bool
  | .none => true
  | .bool _ => true
  | .int _ => true
  | .str _ => true
  | _ => false
/-- a dict of leaves, or no dict in it -/
def flat : P → Bool
  | .dict kvs => kvs.all fun q => leaf q.2 && isKey q.1
  | d => !d.hasDict
def okShw (d : P) : Bool := PyData.showable d && decide (d.shown.length ≤ lim) && decide (d.depth ≤ 50) && flat d
def shwD (d : P) : Option Str := if okShw d then some d.shown else none
/-- the name of a class as repr tells it -/
def excN (c : Str) : Str := Str.ofString ((c.toString.cutAt '.').getLastD "")
def shwX (c t : Str) : Str := excN c ++ "(" ++ t ++ ")"
def shw : P → Option Str
  | .dict ((.none, .str c) :: (.none, x) :: []) => match shwD x with
    | some t => if (shwX c t).length ≤ lim then some (shwX c t) else none
    | none => none
  | .dict ((.none, _) :: _) => none
  | d => shwD d
/-- {} and {k: v} as data -/
def eDv0 : En → Sr → R Vl := fun _ s => .ok (.p (.dict [])) s
def eDvc (k v : Const) : En → Sr → R Vl := fun _ s => match ofC k, ofC v with
  | some x, some y => match key? (.p x) with
    | some x => .ok (.p (.dict [(x, y)])) s
    | none => .no
  | _, _ => .no
def rxV (c : Str) (v : Vl) (s : Sr) : X := match toP v s with
  | some (x, s) => .ex c x s
  | none => .no
def sem (gl : List P) (F : Nat → List Vl → Sr → R Vl) : T → Sm
  | .c x _ _ => { Sm.n with e := eC x }
  | .v i _ _ => { Sm.n with e := eV i, k := kV i }
  | .g i _ _ => { Sm.n with e := eG gl i }
  | .tup a _ _ => { Sm.n with e := eTup (sem gl F a), k := kTup (cnt a) (sem gl F a) }
  | .lst m a _ => { Sm.n with e := eLst m (sem gl F a) }
  | .ix a b _ => { Sm.n with e := eIx (sem gl F a) (sem gl F b), k := kIx (sem gl F a) (sem gl F b) }
  | .sl a lo hi _ _ => { Sm.n with e := eSl (sem gl F a) (sem gl F lo) (sem gl F hi) }
  | .rv a _ _ _ _ _ => { Sm.n with e := eRv (sem gl F a) }
  | .bin a o b _ => { Sm.n with e := eBin o (sem gl F a) (sem gl F b) }
  | .neg a _ => { Sm.n with e := eNeg (sem gl F a) }
  | .nt a _ => { Sm.n with e := eNt (sem gl F a) }
  | .cmp a o b _ => { Sm.n with e := eCmp o (sem gl F a) (sem gl F b) }
  | .cm2 a o b q c _ => { Sm.n with e := eCm2 o q (sem gl F a) (sem gl F b) (sem gl F c) }
  | .bo o a _ => { Sm.n with e := (sem gl F a).bo (o == .Or) }
  | .ite c a b _ => { Sm.n with e := eIte (sem gl F c) (sem gl F a) (sem gl F b) }
  | .bi f _ a _ _ => { Sm.n with e := eBi f (sem gl F a) }
  | .isi a ty _ _ _ => { Sm.n with e := eIsi ty (sem gl F a) }
  | .cal f m _ a _ _ => { Sm.n with e := eCal (F f) m (sem gl F a) }
  | .lrg _ a _ _ _ _ => { Sm.n with e := eLrg (sem gl F a) }
  | .lzp a _ _ _ _ => { Sm.n with e := eLzp (sem gl F a) }
  | .lsm a _ _ => { Sm.n with e := eLsm (sem gl F a) }
  | .rpm a b _ => { Sm.n with e := eRpm (sem gl F a) (sem gl F b) }
  | .cp m elt tg it cond _ own _ => { Sm.n with e := eCp m (sem gl F elt) (sem gl F tg) (sem gl F it) (sem gl F cond) (own.map (·.2)) }
  | .cp2 m elt tg it cond tg1 it1 cond1 _ own own1 _ => { Sm.n with e := eCp2 m (sem gl F elt) (sem gl F tg) (sem gl F it) (sem gl F cond) (sem gl F tg1) (sem gl F it1) (sem gl F cond1) (own.map (·.2)) own1 }
  | .dcp2 kx vx tg it cond tg1 it1 cond1 _ own own1 _ => { Sm.n with e := eDc2 (sem gl F kx) (sem gl F vx) (sem gl F tg) (sem gl F it) (sem gl F cond) (sem gl F tg1) (sem gl F it1) (sem gl F cond1) (own.map (·.2)) own1 }
  | .ldk x _ _ => { Sm.n with e := eLdk (sem gl F x) }
  | .dvl x _ _ => { Sm.n with i := iDvl (sem gl F x) }
  | .app o x _ _ => { Sm.n with e := eApp (sem gl F o) (sem gl F x) }
  | .met f o a _ _ => { Sm.n with e := eMet f (sem gl F o) (sem gl F a) }
  | .sb b a _ _ _ _ => { Sm.n with e := eSb b (sem gl F a) }
  | .dct0 _ => { Sm.n with e := eD0 }
  | .dct1 a b _ => { Sm.n with e := eD1 (sem gl F a) (sem gl F b) }
  | .dcp kx vx tg it cond _ own _ => { Sm.n with e := eDc (sem gl F kx) (sem gl F vx) (sem gl F tg) (sem gl F it) (sem gl F cond) (own.map (·.2)) }
  | .isx a D _ _ _ => { Sm.n with e := fun e s => op1 (fun x => blP (isxP D x)) ((sem gl F a).e e s) }
  | .vlu a _ => { Sm.n with e := fun e s => op1 valP ((sem gl F a).e e s) }
  | .mkx c a _ _ => { Sm.n with e := fun e s => ((sem gl F a).e e s).bd (mkxV c) }
  | .shr a _ _ => { Sm.n with e := fun e s => op1 (fun x => (shw x).map .str) ((sem gl F a).e e s) }
  | .dv0 _ => { Sm.n with e := eDv0 }
  | .dvc k _ _ v _ _ _ => { Sm.n with e := eDvc k v }
  | .dix a b _ => { Sm.n with e := eDix (sem gl F a) (sem gl F b) }
  | .din n a b _ => { Sm.n with e := eDin n (sem gl F a) (sem gl F b) }
  | .dme f o a _ _ => { Sm.n with e := eDme f (sem gl F o) (sem gl F a) }
  | .itm x _ _ => { Sm.n with i := iWk true (sem gl F x) }
  | .dwk x => { Sm.n with i := iWk false (sem gl F x) }
  | .das i _ _ d _ => { Sm.n with s := fun e s => ((sem gl F d).e e s).bx fun v s => kV i v e s }
  | .dst a b x _ _ => { Sm.n with s := sDst (sem gl F a) (sem gl F b) (sem gl F x) }
  | .dag a b o x _ _ => { Sm.n with s := sDag o (sem gl F a) (sem gl F b) (sem gl F x) }
  | .pl x => { Sm.n with e := (sem gl F x).e, i := iPl (sem gl F x) }
  | .rg a _ _ => { Sm.n with i := iRg (sem gl F a) }
  | .en a _ _ => { Sm.n with i := iEn (sem gl F a) }
  | .ez a _ _ _ _ => { Sm.n with i := iEz (sem gl F a) }
  | .xs _ => Sm.n
  | .zp a _ _ => { Sm.n with i := iZp (sem gl F a) }
  | .nil => { Sm.n with a := fun _ s => .ok [] s, s := fun e s => .nx e s, ks := ksNil, z := true }
  | .cons a b => { Sm.n with e := (sem gl F a).e, a := aCons (sem gl F a) (sem gl F b), s := fun e s => ((sem gl F a).s e s).th (sem gl F b).s, ks := ksCons (sem gl F a) (sem gl F b), bo := boCons (sem gl F a) (sem gl F b) }
  | .star a b _ => { Sm.n with a := aStar (sem gl F a) (sem gl F b) }
  | .as t x _ => { Sm.n with s := sAs (sem gl F t) (sem gl F x) }
  | .pa ts es _ _ _ _ _ => { Sm.n with s := sPa (sem gl F ts) (sem gl F es) }
  | .ag t o x _ => { Sm.n with s := sAg o (sem gl F t) (sem gl F x) }
  | .agI a b o x _ _ => { Sm.n with s := sAgI o (sem gl F a) (sem gl F b) (sem gl F x) }
  | .iff c a b _ => { Sm.n with s := sIf (sem gl F c) (sem gl F a) (sem gl F b) }
  | .wh c b _ => { Sm.n with s := sWh (sem gl F c) (sem gl F b) }
  | .fo t it b _ => { Sm.n with s := sFo (sem gl F t) (sem gl F it) (sem gl F b) }
  | .re x _ => { Sm.n with s := sRe (sem gl F x) }
  | .exs x _ => { Sm.n with s := sEx (sem gl F x) }
  | .bk _ => { Sm.n with s := fun e s => .bk e s }
  | .ct _ => { Sm.n with s := fun e s => .ct e s }
  | .ps _ => { Sm.n with s := fun e s => .nx e s }
  | .ra _ _ => Sm.n
  | .rax c a _ _ _ => { Sm.n with s := fun e s => ((sem gl F a).e e s).bx (rxV c) }
/-- a def: its body, how many parameters, how many slots -/
structure Df where
  b : T
  n : Nat
  m : Nat
def endX : X → R Vl
  | .nx _ s => .ok (.p .none) s
  | .rt v s => .ok v s
  | .ex c x s => .ex c x s
  | _ => .no
def runD (d : Df) (g : En → Sr → X) (vs : List Vl) (s : Sr) : R Vl :=
  if vs.length = d.n then endX (g (vs.map some ++ List.replicate (d.m - d.n) none) s) else .no
def callK (gl : List P) (ds : List Df) : Nat → Nat → List Vl → Sr → R Vl
  | 0 => fun _ _ _ => .no
  | k + 1 => fun f vs s =>
    match ds[f]? with
    | some d => runD d (sem gl (callK gl ds k) d.b).s vs s
    | none => .no
end
end Mi
end
section
set_option Elab.async false
set_option linter.all false
set_option maxRecDepth 100000
set_option maxHeartbeats 1000000
/-! M2: what the heap says of data and stores (RepP, Rel), how it goes on (Stp), readings. -/
namespace Mi
open PySem
open L2 (V HO Hp upd upd_same upd_ne SqL SqT Rd Cx Inv PE PT PA PS PSs PG PGs PI TE TT TA TS TG VK Ends RelV Vals ne_of_none)
abbrev Fg := PySem.W.Frag
abbrev Sg := L2.St
/-- a thing that may be changed -/
def isLive : Ob → Bool
  | .lp z _ => z == 0
  | .dp z _ => z == 0
  | _ => true
def live (ρ : Nat → Addr) (st : Sr) (a : Addr) : Prop := ∃ n o, st[n]? = some o ∧ isLive o = true ∧ ρ n = a
def Mt (O : Addr → Prop) (ρ : Nat → Addr) (st : Sr) (a : Addr) : Prop := O a ∨ live ρ st a
/-- a list of the module's own, to the sign -/
def LsK (K : Fg) (a : Addr) (vs : List V) : Prop := ∃ (its : List Value) (n : Nat), K.lookup a = some { cls := .type "list", data := .seq its.toArray n } ∧ vs.length ≤ sizeLine ∧ Vals vs its
/-- a list that is read -/
def LsX (K : Fg) (H : Hp) (a : Addr) (vs : List V) : Prop := Rd H a (.lst vs) ∨ LsK K a vs
/-- a list read as data: it stays (or it is a list of the module) -/
def LsD (K : Fg) (m : Addr → Prop) (H : Hp) (a : Addr) (vs : List V) : Prop := (Rd H a (.lst vs) ∧ ¬ m a) ∨ LsK K a vs
theorem LsX.sq {K : Fg} {H : Hp} {a : Addr} {vs : List V} (h : LsX K H a vs) : SqL K H a vs := by
  rcases h with h | ⟨its, n, e, z, r⟩
  · exact .inl h
  · exact .inr ⟨_, its.toArray, n, e, rfl, rfl, rfl, by rw [List.size_toArray, ← r.length]; exact z, by simpa using r⟩
theorem LsD.x {K : Fg} {m : Addr → Prop} {H : Hp} {a : Addr} {vs : List V} (h : LsD K m H a vs) : LsX K H a vs := by
  rcases h with h | h
  · exact .inl h.1
  · exact .inr h
theorem LsD.sq {K : Fg} {m : Addr → Prop} {H : Hp} {a : Addr} {vs : List V} (h : LsD K m H a vs) : SqL K H a vs := h.x.sq
/-- a dict read as data: it stays -/
def DkD (m : Addr → Prop) (H : Hp) (a : Addr) (ks : List (L2.Key × V)) : Prop := (H a = some (.dK ks) ∨ ∃ o, H a = some (.frz o (.dK ks))) ∧ ¬ m a
def keyV : L2.Key → P
  | .inl i => .int i
  | .inr x => .str x
/-- the class of errors of this name -/
def CN (K : Fg) (c : Str) (C : Addr) : Prop := PySem.W.nsIn K mainGlobals c = some (some (.ref C))
/-- a class of errors, as the written part has it -/
structure ErrK (K : Fg) (CE C : Addr) : Prop where
  oex : L2.OexC K C
  sub : PySem.W.subIn K (.ref C) (.ref CE) = some true
  sup : PySem.W.ks_superIn K C CE "__init__" = some (some (.builtin "ValueError.__init__"))
  ve : PySem.W.subIn K (.ref C) (.type "ValueError") = some true
  noV : PySem.W.findIn K (.ref C) "value" = some none
abbrev veTail : List Value := [.type "ValueError", .type "Exception", .type "BaseException", .type "object"]
/-- .. of the name c; CE: the class of them all, fI: their __init__ -/
structure ErrF (K : Fg) (CE fI : Addr) (c : Str) (C : Addr) : Prop where
  er : ErrK K CE C
  cn : CN K c C
  nv : c ≠ "ValueError"
  ce : CN K "CellarError" CE
  nce : ∃ cd, PySem.W.clsIn K CE = some cd ∧ cd.name = ("CellarError" : Str)
  init : PySem.W.findIn K (.ref C) "__init__" = some (some (.ref fI))
  tI : PySem.W.typeIn K (.ref fI) = some (.type "function")
  rp : PySem.W.findIn K (.ref C) "__repr__" = some (some (.builtin "BaseException.__repr__"))
  xf : L2.XfC K C
  ex : L2.ExcC K C
  cd : ∃ cd own, PySem.W.clsIn K C = some cd ∧ cd.name = c ∧ cd.mro = .ref C :: own ++ veTail ∧ (own = [.ref CE] ∨ (own = [] ∧ C = CE))
def ErrC (K : Fg) (c : Str) (C : Addr) : Prop := ∃ CE fI, ErrF K CE fI c C
/-- an exception at a: its class, its dict, its args (where they are known) -/
def exw (a C dx : Addr) (t1 : Option Addr) : HO := .ext fun h => ∃ oe vs, h.get? a = some oe ∧ oe.cls = .ref C ∧ oe.dict = some dx ∧ oe.data = .fields vs ∧ ∀ t, t1 = some t → vs[0]? = some (.ref t)
mutual
inductive RepP (K : Fg) (m : Addr → Prop) (H : Hp) : P → V → Prop
  | non : RepP K m H .none .non
  | bl (b : Bool) : RepP K m H (.bool b) (.bl b)
  | int (i : Int) : RepP K m H (.int i) (.int i)
  | str (x : Str) : RepP K m H (.str x) (.str x)
  | lst {a : Addr} {ds : List P} {vs : List V} : LsD K m H a vs → ReqP K m H ds vs → RepP K m H (.list ds) (.ref a)
  | tup {a : Addr} {ds : List P} {vs : List V} : SqT K H a vs → ReqP K m H ds vs → RepP K m H (.tuple ds) (.ref a)
  | dct {a : Addr} {kvs : List (P × P)} {ks : List (L2.Key × V)} : DkD m H a ks → KReq K m H kvs ks → RepP K m H (.dict kvs) (.ref a)
  | exc {a C dx : Addr} {t1 : Option Addr} {c : Str} {x : P} {v : V} {fs : List (Str × V)} {q : List (P × P)} : ErrC K c C → H a = some (exw a C dx t1) → H dx = some (.xd fs) → fs.lookup ("value" : Str) = some v → RepP K m H x v →
      (q = [] → ∃ t, t1 = some t ∧ H t = some (.tup [v])) → RepP K m H (exP c x q) (.ref a)
inductive ReqP (K : Fg) (m : Addr → Prop) (H : Hp) : List P → List V → Prop
  | nil : ReqP K m H [] []
  | cons {d : P} {ds : List P} {v : V} {vs : List V} : RepP K m H d v → ReqP K m H ds vs → ReqP K m H (d :: ds) (v :: vs)
/-- a dict's entries -/
inductive KReq (K : Fg) (m : Addr → Prop) (H : Hp) : List (P × P) → List (L2.Key × V) → Prop
  | nil : KReq K m H [] []
  | cons {x y : P} {r : List (P × P)} {k : L2.Key} {v : V} {s : List (L2.Key × V)} : x = keyV k → RepP K m H y v → KReq K m H r s → KReq K m H ((x, y) :: r) ((k, v) :: s)
end
/-- what is never written -/
def Fz : HO → Bool
  | .lst _ => false
  | .dK _ => false
  | .tbl _ => false
  | _ => true
/-- what of the heap is kept -/
structure Pre (K : Fg) (m : Addr → Prop) (H : Hp) (m' : Addr → Prop) (H' : Hp) : Prop where
  l : ∀ a vs, LsD K m H a vs → LsD K m' H' a vs
  d : ∀ a ks, DkD m H a ks → DkD m' H' a ks
  f : ∀ a o, H a = some o → Fz o = true → H' a = some o
section
variable {K : Fg} {m m' : Addr → Prop} {H H' : Hp}
theorem Pre.t (p : Pre K m H m' H') {a : Addr} {vs : List V} (h : SqT K H a vs) : SqT K H' a vs := by
  rcases h with h | h
  · rcases h with h | ⟨o, h⟩
    · exact .inl (.inl (p.f a _ h rfl))
    · exact .inl (.inr ⟨o, p.f a _ h rfl⟩)
  · exact .inr h
mutual
theorem RepP.dp : ∀ {d : P} {v : V}, RepP K m H d v → d.hasDict = false → L2.Dp K H v d
  | _, _, .non, _ => .non
  | _, _, .bl b, _ => .bl b
  | _, _, .int i, _ => .int i
  | _, _, .str x, _ => .str x
  | _, _, .lst h r, e => .lst h.sq (r.dp (by simpa [PyData.hasDict] using e))
  | _, _, .tup h r, e => .tup h (r.dp (by simpa [PyData.hasDict] using e))
  | _, _, .dct _ _, e => by simp [PyData.hasDict] at e
  | _, _, .exc _ _ _ _ _ _, e => by simp [exP, PyData.hasDict] at e
theorem ReqP.dp : ∀ {ds : List P} {vs : List V}, ReqP K m H ds vs → PyData.hasDictAll ds = false → L2.DpAll K H vs ds
  | _, _, .nil, _ => .nil
  | _, _, .cons h r, e => by
    simp only [PyData.hasDictAll, Bool.or_eq_false_iff] at e
    exact .cons (h.dp e.1) (r.dp e.2)
end
mutual
theorem RepP.mono (p : Pre K m H m' H') : ∀ {d : P} {v : V}, RepP K m H d v → RepP K m' H' d v
  | _, _, .non => .non
  | _, _, .bl b => .bl b
  | _, _, .int i => .int i
  | _, _, .str x => .str x
  | _, _, .lst h r => .lst (p.l _ _ h) (r.mono p)
  | _, _, .tup h r => .tup (p.t h) (r.mono p)
  | _, _, .dct h r => .dct (p.d _ _ h) (r.mono p)
  | _, _, .exc n h1 h2 h3 r h4 => .exc n (p.f _ _ h1 rfl) (p.f _ _ h2 rfl) h3 (r.mono p) fun e => let ⟨t, e1, e2⟩ := h4 e; ⟨t, e1, p.f _ _ e2 rfl⟩
theorem ReqP.mono (p : Pre K m H m' H') : ∀ {ds : List P} {vs : List V}, ReqP K m H ds vs → ReqP K m' H' ds vs
  | _, _, .nil => .nil
  | _, _, .cons h r => .cons (h.mono p) (r.mono p)
theorem KReq.mono (p : Pre K m H m' H') : ∀ {ds : List (P × P)} {vs : List (L2.Key × V)}, KReq K m H ds vs → KReq K m' H' ds vs
  | _, _, .nil => .nil
  | _, _, .cons e h r => .cons e (h.mono p) (r.mono p)
end
mutual
theorem al_dict : ∀ d : P, W.alike d d = true → d.hasDict = false
  | .none, _ => by simp [PyData.hasDict]
  | .bool _, _ => by simp [PyData.hasDict]
  | .int _, _ => by simp [PyData.hasDict]
  | .str _, _ => by simp [PyData.hasDict]
  | .list xs, h => by simp only [PyData.hasDict]; exact al_dicts xs (by simpa only [W.alike] using h)
  | .tuple xs, h => by simp only [PyData.hasDict]; exact al_dicts xs (by simpa only [W.alike] using h)
  | .dict kvs, h => by simp [W.alike] at h
theorem al_dicts : ∀ ds : List P, W.alikeAll ds ds = true → PyData.hasDictAll ds = false
  | [], _ => by simp [PyData.hasDictAll]
  | d :: ds, h => by
    simp only [W.alikeAll, Bool.and_eq_true] at h
    simp [PyData.hasDictAll, al_dict d h.1, al_dicts ds h.2]
end
theorem hasDictAll_of : ∀ {ds : List P}, (∀ d ∈ ds, d.hasDict = false) → PyData.hasDictAll ds = false
  | [], _ => by simp [PyData.hasDictAll]
  | d :: ds, h => by simp [PyData.hasDictAll, h d List.mem_cons_self, hasDictAll_of fun x hx => h x (List.mem_cons_of_mem _ hx)]
theorem of_hasDictAll : ∀ {ds : List P}, PyData.hasDictAll ds = false → ∀ d ∈ ds, d.hasDict = false
  | [], _ => fun d h => by simp at h
  | d :: ds, e => fun x hx => by
    simp only [PyData.hasDictAll, Bool.or_eq_false_iff] at e
    rcases List.mem_cons.mp hx with rfl | hx
    · exact e.1
    · exact of_hasDictAll e.2 x hx
theorem shaped_dict {d : P} (h : SeqAt.shaped d = true) : d.hasDict = false := PyData.hasDict_of_canLay _ (SeqAt.canLay_of_shaped h)
theorem ReqP.len : ∀ {ds : List P} {vs : List V}, ReqP K m H ds vs → ds.length = vs.length
  | _, _, .nil => rfl
  | _, _, .cons _ r => by simp [r.len]
theorem ReqP.get : ∀ {ds : List P} {vs : List V} {i : Nat} {x : P}, ReqP K m H ds vs → ds[i]? = some x → ∃ v, vs[i]? = some v ∧ RepP K m H x v
  | _, _, _, _, .nil, h => by simp at h
  | _, _, 0, _, .cons h r, e => by simp at e; subst e; exact ⟨_, rfl, h⟩
  | _, _, i + 1, x, .cons h r, e => by
    obtain ⟨v, h1, h2⟩ := ReqP.get (i := i) (x := x) r (by simpa using e)
    exact ⟨v, by simpa using h1, h2⟩
theorem ReqP.none_of {ds : List P} {vs : List V} {i : Nat} (r : ReqP K m H ds vs) (e : ds[i]? = none) : vs[i]? = none := by
  have := r.len
  rw [List.getElem?_eq_none_iff] at e ⊢
  omega
theorem ReqP.app : ∀ {ds es : List P} {vs us : List V}, ReqP K m H ds vs → ReqP K m H es us → ReqP K m H (ds ++ es) (vs ++ us)
  | _, _, _, _, .nil, s => s
  | _, _, _, _, .cons h r, s => .cons h (ReqP.app r s)
theorem ReqP.take (n : Nat) : ∀ {ds : List P} {vs : List V}, ReqP K m H ds vs → ReqP K m H (ds.take n) (vs.take n) := by
  induction n with
  | zero => intro ds vs _; simp only [List.take_zero]; exact .nil
  | succ n ih =>
    intro ds vs h
    cases h with
    | nil => exact .nil
    | cons h r => exact .cons h (ih r)
theorem ReqP.drop (n : Nat) : ∀ {ds : List P} {vs : List V}, ReqP K m H ds vs → ReqP K m H (ds.drop n) (vs.drop n) := by
  induction n with
  | zero => intro ds vs h; exact h
  | succ n ih =>
    intro ds vs h
    cases h with
    | nil => exact .nil
    | cons h r => exact ih r
theorem ReqP.set {x : P} {u : V} (hx : RepP K m H x u) : ∀ {ds : List P} {vs : List V} (i : Nat), ReqP K m H ds vs → ReqP K m H (ds.set i x) (vs.set i u)
  | _, _, _, .nil => .nil
  | _, _, 0, .cons _ r => .cons hx r
  | _, _, i + 1, .cons h r => .cons h (ReqP.set hx i r)
theorem ReqP.rev {ds : List P} {vs : List V} (h : ReqP K m H ds vs) : ReqP K m H ds.reverse vs.reverse := by
  induction ds generalizing vs with
  | nil => cases h; exact .nil
  | cons d ds ih =>
    cases h with
    | cons h r =>
      rw [List.reverse_cons, List.reverse_cons]
      exact (ih r).app (.cons h .nil)
theorem RepP.int_inv {i : Int} {v : V} (h : RepP K m H (.int i) v) : v = .int i := by cases h; rfl
theorem RepP.bl_inv {b : Bool} {v : V} (h : RepP K m H (.bool b) v) : v = .bl b := by cases h; rfl
theorem RepP.str_inv {x : Str} {v : V} (h : RepP K m H (.str x) v) : v = .str x := by cases h; rfl
theorem RepP.non_inv {v : V} (h : RepP K m H .none v) : v = .non := by cases h; rfl
theorem RepP.tup_inv {ds : List P} {v : V} (h : RepP K m H (.tuple ds) v) : ∃ a vs, v = .ref a ∧ SqT K H a vs ∧ ReqP K m H ds vs := by
  cases h with
  | tup h r => exact ⟨_, _, rfl, h, r⟩
theorem RepP.lst_inv {ds : List P} {v : V} (h : RepP K m H (.list ds) v) : ∃ a vs, v = .ref a ∧ LsD K m H a vs ∧ ReqP K m H ds vs := by
  cases h with
  | lst h r => exact ⟨_, _, rfl, h, r⟩
theorem ReqP.ints : ∀ {ds : List P} {vs : List V} {ns : List Int}, ReqP K m H ds vs → ints? ds = some ns → ds = ns.map .int ∧ vs = ns.map V.int
  | _, _, _, .nil, h => by cases h; exact ⟨rfl, rfl⟩
  | _, _, ns, .cons (d := d) h r, e => by
    cases h with
    | int i =>
      simp only [ints?, Option.map_eq_some_iff] at e
      obtain ⟨ms, e1, rfl⟩ := e
      obtain ⟨h1, h2⟩ := ReqP.ints r e1
      exact ⟨by rw [h1]; rfl, by rw [h2]; rfl⟩
    | _ => simp [ints?, exP] at e
theorem ReqP.bools : ∀ {ds : List P} {vs : List V} {ns : List Bool}, ReqP K m H ds vs → bools? ds = some ns → ds = ns.map .bool ∧ vs = ns.map V.bl
  | _, _, _, .nil, h => by cases h; exact ⟨rfl, rfl⟩
  | _, _, ns, .cons (d := d) h r, e => by
    cases h with
    | bl i =>
      simp only [bools?, Option.map_eq_some_iff] at e
      obtain ⟨ms, e1, rfl⟩ := e
      obtain ⟨h1, h2⟩ := ReqP.bools r e1
      exact ⟨by rw [h1]; rfl, by rw [h2]; rfl⟩
    | _ => simp [bools?, exP] at e
end
theorem KReq.map {K : Fg} {m m' : Addr → Prop} {H H' : Hp} (f : ∀ {d v}, RepP K m H d v → RepP K m' H' d v) : ∀ {kvs : List (P × P)} {ks : List (L2.Key × V)}, KReq K m H kvs ks → KReq K m' H' kvs ks
  | _, _, .nil => .nil
  | _, _, .cons e h r => .cons e (f h) (KReq.map f r)
/-- what a value is -/
def Rep (K : Fg) (O : Addr → Prop) (ρ : Nat → Addr) (st : Sr) (H : Hp) : Vl → V → Prop
  | .p x, v => RepP K (Mt O ρ st) H x v
  | .r n, v => n < st.length ∧ v = .ref (ρ n)
inductive Reps (K : Fg) (O : Addr → Prop) (ρ : Nat → Addr) (st : Sr) (H : Hp) : List Vl → List V → Prop
  | nil : Reps K O ρ st H [] []
  | cons {x : Vl} {xs : List Vl} {v : V} {vs : List V} : Rep K O ρ st H x v → Reps K O ρ st H xs vs → Reps K O ρ st H (x :: xs) (v :: vs)
def RepOb (K : Fg) (O : Addr → Prop) (ρ : Nat → Addr) (st : Sr) (H : Hp) : Ob → HO → Prop
  | .lp _ xs, h => ∃ vs, h = .lst vs ∧ ReqP K (Mt O ρ st) H xs vs
  | .lr ns, h => h = .lst (ns.map fun n => V.ref (ρ n)) ∧ ∀ n ∈ ns, n < st.length
  | .dp z kvs, h => ∃ ks, ((z = 0 ∧ h = .dK ks) ∨ (z ≠ 0 ∧ ∃ o, h = .frz o (.dK ks))) ∧ KReq K (Mt O ρ st) H kvs ks
  | _, _ => False
/-- the store -/
structure RelS (K : Fg) (O : Addr → Prop) (ρ : Nat → Addr) (H : Hp) (st : Sr) : Prop where
  ob : ∀ (n : Nat) (o : Ob), st[n]? = some o → ∃ h, H (ρ n) = some h ∧ RepOb K O ρ st H o h
  inj : ∀ n k : Nat, n < st.length → k < st.length → ρ n = ρ k → n = k
  out : ∀ n : Nat, n < st.length → ¬ O (ρ n)
  al : ∀ a, O a → H a ≠ none
/-- the names -/
structure RelE (K : Fg) (O : Addr → Prop) (ρ : Nat → Addr) (σ : Sg) (H : Hp) (e : En) (st : Sr) : Prop where
  ln : σ.length = e.length
  sl : ∀ (i : Nat) (x : Vl), e[i]? = some (some x) → ∃ v, σ[i]? = some (some v) ∧ Rep K O ρ st H x v
structure Rel (K : Fg) (O : Addr → Prop) (ρ : Nat → Addr) (σ : Sg) (H : Hp) (e : En) (st : Sr) : Prop where
  S : RelS K O ρ H st
  E : RelE K O ρ σ H e st
/-- how the heap goes on -/
structure Stp (ρ : Nat → Addr) (st : Sr) (H : Hp) (ρ' : Nat → Addr) (st' : Sr) (H' : Hp) : Prop where
  le : st.length ≤ st'.length
  ag : ∀ n : Nat, n < st.length → ρ' n = ρ n
  lv : ∀ a, live ρ' st' a → live ρ st a ∨ H a = none
  kp : ∀ a o, H a = some o → ¬ live ρ st a → (∀ ps, o ≠ .tbl ps) → H' a = some o
  lr : ∀ (n : Nat) (ns : List Nat), st[n]? = some (Ob.lr ns) → ∃ ns' : List Nat, st'[n]? = some (.lr ns')
  tb : ∀ a ps, H a = some (.tbl ps) → ∃ more, H' a = some (.tbl (ps ++ more))
  lp : ∀ (n z : Nat) (xs : List P), st[n]? = some (Ob.lp z xs) → ∃ (z' : Nat) (xs' : List P), st'[n]? = some (.lp z' xs')
  dp : ∀ (n z : Nat) (xs : List (P × P)), st[n]? = some (Ob.dp z xs) → ∃ (z' : Nat) (xs' : List (P × P)), st'[n]? = some (.dp z' xs')
section
variable {K : Fg} {O : Addr → Prop} {ρ ρ' ρ'' : Nat → Addr} {σ σ' : Sg} {H H' H'' : Hp} {e : En} {st st' st'' : Sr}
theorem Stp.rfl : Stp ρ st H ρ st H := ⟨Nat.le_refl _, fun _ _ => Eq.refl _, fun _ h => .inl h, fun _ _ h _ _ => h, fun _ _ h => ⟨_, h⟩, fun _ ps h => ⟨#[], by rw [h]; simp⟩, fun _ _ _ h => ⟨_, _, h⟩, fun _ _ _ h => ⟨_, _, h⟩⟩
theorem live_lst (S : RelS K O ρ H st) {a : Addr} (h : live ρ st a) : (∃ vs, H a = some (.lst vs)) ∨ ∃ ks, H a = some (.dK ks) := by
  obtain ⟨n, o, h1, h2, rfl⟩ := h
  obtain ⟨u, e1, e2⟩ := S.ob n o h1
  cases o with
  | lp z xs => obtain ⟨vs, rfl, _⟩ := e2; exact .inl ⟨vs, e1⟩
  | lr ns => obtain ⟨rfl, _⟩ := e2; exact .inl ⟨_, e1⟩
  | dp z kvs =>
    obtain ⟨ks, ⟨_, q⟩ | ⟨q, _⟩, _⟩ := e2
    · exact .inr ⟨ks, by rw [e1, q]⟩
    · exact absurd (by simpa [isLive] using h2) q
  | no => exact e2.elim
theorem Stp.there {O2 O3 : Addr → Prop} (S : RelS K O3 ρ H st) (S' : RelS K O2 ρ' H' st') (s : Stp ρ st H ρ' st' H') {a : Addr} (h : H a ≠ none) : H' a ≠ none := by
  cases q : H a with
  | none => exact absurd q h
  | some o =>
    by_cases hl : live ρ st a
    · obtain ⟨n, u, h1, _, rfl⟩ := hl
      have hn : n < st.length := (List.getElem?_eq_some_iff.mp h1).1
      have hn' : n < st'.length := Nat.lt_of_lt_of_le hn s.le
      obtain ⟨w, e1, _⟩ := S'.ob n st'[n] (by simp [hn'])
      rw [← s.ag n hn, e1]
      simp
    · by_cases ht : ∃ ps, o = .tbl ps
      · obtain ⟨ps, rfl⟩ := ht
        obtain ⟨more, e⟩ := s.tb a ps q
        rw [e]; simp
      · rw [s.kp a o q hl fun ps z => ht ⟨ps, z⟩]
        simp
theorem Stp.trans (S : RelS K O ρ H st) (S' : RelS K O ρ' H' st') (a : Stp ρ st H ρ' st' H') (b : Stp ρ' st' H' ρ'' st'' H'') : Stp ρ st H ρ'' st'' H'' where
  le := Nat.le_trans a.le b.le
  ag := fun n h => (b.ag n (Nat.lt_of_lt_of_le h a.le)).trans (a.ag n h)
  lv := fun c h => by
    rcases b.lv c h with h | h
    · exact a.lv c h
    · refine .inr (Classical.byContradiction fun q => a.there S S' q h)
  kp := fun c o h hn ht => b.kp c o (a.kp c o h hn ht) (fun q => by
    rcases a.lv c q with q | q
    · exact hn q
    · rw [h] at q; cases q) ht
  lr := fun n ns h => by
    obtain ⟨ns', h'⟩ := a.lr n ns h
    exact b.lr n ns' h'
  tb := fun c ps h => by
    obtain ⟨m1, h1⟩ := a.tb c ps h
    obtain ⟨m2, h2⟩ := b.tb c _ h1
    exact ⟨m1 ++ m2, by rw [h2, Array.append_assoc]⟩
  lp := fun n z xs h => by
    obtain ⟨z', xs', h'⟩ := a.lp n z xs h
    exact b.lp n z' xs' h'
  dp := fun n z xs h => by
    obtain ⟨z', xs', h'⟩ := a.dp n z xs h
    exact b.dp n z' xs' h'
theorem Stp.tupK (S : RelS K O ρ H st) (s : Stp ρ st H ρ' st' H') {a : Addr} {vs : List V} (h : SqT K H a vs) : SqT K H' a vs := by
  have nl : ∀ u, H a = some u → (∀ ws, u ≠ .lst ws) → (∀ ws, u ≠ .dK ws) → ¬ live ρ st a := fun u e n n2 q => by
    rcases live_lst S q with ⟨ws, e'⟩ | ⟨ws, e'⟩
    · rw [e] at e'; cases e'; exact n ws (Eq.refl _)
    · rw [e] at e'; cases e'; exact n2 ws (Eq.refl _)
  rcases h with h | h
  · refine .inl ?_
    rcases h with h | ⟨o, h⟩
    · exact .inl (s.kp a _ h (nl _ h (fun ws z => nomatch z) fun ws z => nomatch z) fun ps z => nomatch z)
    · exact .inr ⟨o, s.kp a _ h (nl _ h (fun ws z => nomatch z) fun ws z => nomatch z) fun ps z => nomatch z⟩
  · exact .inr h
theorem Stp.lstK (S : RelS K O ρ H st) (s : Stp ρ st H ρ' st' H') {a : Addr} {vs : List V} (h : LsD K (Mt O ρ st) H a vs) : LsD K (Mt O ρ' st') H' a vs := by
  rcases h with ⟨h, n⟩ | h
  · have hn : ¬ live ρ st a := fun q => n (.inr q)
    have some' : H a ≠ none := by
      rcases h with h | ⟨o, h⟩ <;> (rw [h]; simp)
    refine .inl ⟨?_, fun q => ?_⟩
    · rcases h with h | ⟨o, h⟩
      · exact .inl (s.kp a _ h hn fun ps z => nomatch z)
      · exact .inr ⟨o, s.kp a _ h hn fun ps z => nomatch z⟩
    · rcases q with q | q
      · exact n (.inl q)
      · rcases s.lv a q with q | q
        · exact hn q
        · exact some' q
  · exact .inr h
theorem dkd_ne {m : Addr → Prop} {a : Addr} {ks : List (L2.Key × V)} (h : DkD m H a ks) : H a ≠ none := by
  rcases h.1 with q | ⟨o, q⟩ <;> (rw [q]; simp)
theorem dkd_step (hl : ∀ a, live ρ' st' a → live ρ st a ∨ H a = none) (kp : ∀ a o, H a = some o → ¬ live ρ st a → (∀ ps, o ≠ .tbl ps) → H' a = some o) {a : Addr} {ks : List (L2.Key × V)} (h : DkD (Mt O ρ st) H a ks) : DkD (Mt O ρ' st') H' a ks := by
  have hn : ¬ live ρ st a := fun q => h.2 (.inr q)
  refine ⟨?_, fun q => ?_⟩
  · rcases h.1 with q | ⟨o, q⟩
    · exact .inl (kp a _ q hn fun ps z => nomatch z)
    · exact .inr ⟨o, kp a _ q hn fun ps z => nomatch z⟩
  · rcases q with q | q
    · exact h.2 (.inl q)
    · rcases hl a q with q | q
      · exact hn q
      · exact dkd_ne h q
theorem live_fz (S : RelS K O ρ H st) {a : Addr} {o : HO} (e : H a = some o) (f : Fz o = true) : ¬ live ρ st a := fun q => by
  rcases live_lst S q with ⟨ws, z⟩ | ⟨ws, z⟩ <;> (rw [e] at z; cases z; cases f)
theorem fz_tbl {o : HO} (f : Fz o = true) : ∀ ps, o ≠ .tbl ps := fun ps z => by rw [z] at f; cases f
theorem Stp.pre (S : RelS K O ρ H st) (s : Stp ρ st H ρ' st' H') : Pre K (Mt O ρ st) H (Mt O ρ' st') H' :=
  ⟨fun _ _ q => s.lstK S q, fun _ _ q => dkd_step s.lv s.kp q, fun a o e f => s.kp a o e (live_fz S e f) (fz_tbl f)⟩
theorem RepP.stp (S : RelS K O ρ H st) (s : Stp ρ st H ρ' st' H') {d : P} {v : V} (h : RepP K (Mt O ρ st) H d v) : RepP K (Mt O ρ' st') H' d v :=
  h.mono (s.pre S)
theorem ReqP.stp (S : RelS K O ρ H st) (s : Stp ρ st H ρ' st' H') {d : List P} {v : List V} (h : ReqP K (Mt O ρ st) H d v) : ReqP K (Mt O ρ' st') H' d v :=
  h.mono (s.pre S)
theorem Rep.stp (S : RelS K O ρ H st) (s : Stp ρ st H ρ' st' H') {x : Vl} {v : V} (h : Rep K O ρ st H x v) : Rep K O ρ' st' H' x v := by
  cases x with
  | p x => exact RepP.stp S s h
  | r n => exact ⟨Nat.lt_of_lt_of_le h.1 s.le, by rw [s.ag n h.1]; exact h.2⟩
theorem Reps.stp (S : RelS K O ρ H st) (s : Stp ρ st H ρ' st' H') : ∀ {xs : List Vl} {vs : List V}, Reps K O ρ st H xs vs → Reps K O ρ' st' H' xs vs
  | _, _, .nil => .nil
  | _, _, .cons h r => .cons (h.stp S s) (Reps.stp S s r)
theorem RelE.stp (S : RelS K O ρ H st) (s : Stp ρ st H ρ' st' H') (E : RelE K O ρ σ H e st) : RelE K O ρ' σ H' e st' :=
  ⟨E.ln, fun i x h => let ⟨v, h1, h2⟩ := E.sl i x h; ⟨v, h1, h2.stp S s⟩⟩
theorem RelE.set (E : RelE K O ρ σ H e st) {x : Vl} {v : V} (h : Rep K O ρ st H x v) (i : Nat) : RelE K O ρ (σ.set i (some v)) H (e.set i (some x)) st := by
  refine ⟨by simp [E.ln], fun j y hj => ?_⟩
  by_cases q : i = j
  · subst q
    have hi : i < e.length := by
      have := (List.getElem?_eq_some_iff.mp hj).1
      simpa using this
    rw [List.getElem?_set_self hi] at hj
    cases hj
    exact ⟨v, by rw [List.getElem?_set_self (by rw [E.ln]; exact hi)], h⟩
  · rw [List.getElem?_set_ne q] at hj
    obtain ⟨u, h1, h2⟩ := E.sl j y hj
    exact ⟨u, by rw [List.getElem?_set_ne q]; exact h1, h2⟩
theorem Reps.len : ∀ {xs : List Vl} {vs : List V}, Reps K O ρ st H xs vs → xs.length = vs.length
  | _, _, .nil => Eq.refl _
  | _, _, .cons _ r => by simp [r.len]
theorem Reps.app : ∀ {xs ys : List Vl} {vs us : List V}, Reps K O ρ st H xs vs → Reps K O ρ st H ys us → Reps K O ρ st H (xs ++ ys) (vs ++ us)
  | _, _, _, _, .nil, s => s
  | _, _, _, _, .cons h r, s => .cons h (Reps.app r s)
theorem ReqP.reps : ∀ {xs : List P} {vs : List V}, ReqP K (Mt O ρ st) H xs vs → Reps K O ρ st H (xs.map .p) vs
  | _, _, .nil => .nil
  | _, _, .cons h r => .cons h (ReqP.reps r)
/-- a new thing that the store does not hold -/
theorem Stp.new {p : Addr} {o : HO} (S : RelS K O ρ H st) (hp : H p = none) : Stp ρ st H ρ st (upd H p o) :=
  ⟨Nat.le_refl _, fun _ _ => Eq.refl _, fun _ h => .inl h, fun a u h _ _ => by rw [upd_ne (ne_of_none h hp)]; exact h, fun _ _ h => ⟨_, h⟩, fun a ps h => ⟨#[], by rw [upd_ne (ne_of_none h hp), h]; simp⟩, fun _ _ _ h => ⟨_, _, h⟩, fun _ _ _ h => ⟨_, _, h⟩⟩
theorem RelS.stp0 (S : RelS K O ρ H st) (s : Stp ρ st H ρ st H') (h : ∀ (n : Nat) (o : Ob), st[n]? = some o → H' (ρ n) = H (ρ n)) : RelS K O ρ H' st := by
  refine ⟨fun n o e => ?_, S.inj, S.out, fun a ha q => ?_⟩
  · obtain ⟨u, e1, e2⟩ := S.ob n o e
    refine ⟨u, (h n o e).trans e1, ?_⟩
    cases o with
    | lp z xs => obtain ⟨vs, rfl, r⟩ := e2; exact ⟨vs, Eq.refl _, r.stp S s⟩
    | lr ns => exact e2
    | dp z kvs => obtain ⟨ks, q, r⟩ := e2; exact ⟨ks, q, r.map fun h => h.stp S s⟩
    | no => exact e2.elim
  · cases q' : H a with
    | none => exact S.al a ha q'
    | some u =>
      by_cases hl : live ρ st a
      · obtain ⟨n, o, h1, _, rfl⟩ := hl
        rw [h n o h1, q'] at q; cases q
      · by_cases ht : ∃ ps, u = .tbl ps
        · obtain ⟨ps, rfl⟩ := ht
          obtain ⟨more, z⟩ := s.tb a ps q'
          rw [z] at q; cases q
        · rw [s.kp a u q' hl fun ps z => ht ⟨ps, z⟩] at q; cases q
theorem RelS.new {p : Addr} {o : HO} (S : RelS K O ρ H st) (hp : H p = none) : RelS K O ρ (upd H p o) st :=
  S.stp0 (Stp.new S hp) fun n u e => by
    obtain ⟨w, e1, _⟩ := S.ob n u e
    rw [upd_ne (ne_of_none e1 hp)]
theorem RelS.notO (S : RelS K O ρ H st) {p : Addr} (hp : H p = none) : ¬ Mt O ρ st p := fun q => by
  rcases q with q | q
  · exact S.al p q hp
  · rcases live_lst S q with ⟨vs, e⟩ | ⟨vs, e⟩ <;> (rw [hp] at e; cases e)
/-- a new tuple, a new list given away as data -/
theorem rep_newT {p : Addr} {xs : List P} {vs : List V} (S : RelS K O ρ H st) (hp : H p = none) (r : ReqP K (Mt O ρ st) H xs vs) : Rep K O ρ st (upd H p (.tup vs)) (.p (.tuple xs)) (.ref p) :=
  RepP.tup (L2.SqT.of upd_same) (r.stp S (Stp.new S hp))
theorem rep_newL {p : Addr} {xs : List P} {vs : List V} (S : RelS K O ρ H st) (hp : H p = none) (r : ReqP K (Mt O ρ st) H xs vs) : Rep K O ρ st (upd H p (.lst vs)) (.p (.list xs)) (.ref p) :=
  RepP.lst (.inl ⟨.inl upd_same, S.notO hp⟩) (r.stp S (Stp.new S hp))
/-- a new thing of the store -/
def ext (ρ : Nat → Addr) (n : Nat) (p : Addr) : Nat → Addr := fun k => if k = n then p else ρ k
theorem ext_same {n : Nat} {p : Addr} : ext ρ n p n = p := if_pos (Eq.refl _)
theorem ext_ne {n k : Nat} {p : Addr} (h : k ≠ n) : ext ρ n p k = ρ k := if_neg h
theorem Stp.push {p : Addr} {o : Ob} {h : HO} (hp : H p = none) : Stp ρ st H (ext ρ st.length p) (st ++ [o]) (upd H p h) := by
  refine ⟨by simp, fun n hn => ext_ne (Nat.ne_of_lt hn), fun a ⟨n, u, h1, h2, h3⟩ => ?_, fun a u e _ _ => by rw [upd_ne (ne_of_none e hp)]; exact e, fun n ns e => ⟨ns, ?_⟩, fun a ps e => ⟨#[], by rw [upd_ne (ne_of_none e hp), e]; simp⟩, fun n z xs e => ⟨z, xs, by rw [List.getElem?_append_left (List.getElem?_eq_some_iff.mp e).1]; exact e⟩, fun n z xs e => ⟨z, xs, by rw [List.getElem?_append_left (List.getElem?_eq_some_iff.mp e).1]; exact e⟩⟩
  · by_cases q : n = st.length
    · subst q
      rw [ext_same] at h3
      subst h3
      exact .inr hp
    · rw [ext_ne q] at h3
      have hlt : n < st.length := by
        have := (List.getElem?_eq_some_iff.mp h1).1
        simp at this; omega
      rw [List.getElem?_append_left hlt] at h1
      exact .inl ⟨n, u, h1, h2, h3⟩
  · rw [List.getElem?_append_left (List.getElem?_eq_some_iff.mp e).1]; exact e
theorem RelS.pushO {p : Addr} {ob : Ob} {ho : HO} (S : RelS K O ρ H st) (hp : H p = none) (r : RepOb K O (ext ρ st.length p) (st ++ [ob]) (upd H p ho) ob ho) :
    RelS K O (ext ρ st.length p) (upd H p ho) (st ++ [ob]) := by
  have s : Stp ρ st H (ext ρ st.length p) (st ++ [ob]) (upd H p ho) := Stp.push hp
  refine ⟨fun n o e => ?_, fun n k hn hk q => ?_, fun n hn => ?_, fun a ha => ?_⟩
  · by_cases q : n = st.length
    · subst q
      rw [List.getElem?_append_right (Nat.le_refl _)] at e
      simp at e
      subst e
      exact ⟨_, by rw [ext_same, upd_same], r⟩
    · have hlt : n < st.length := by
        have := (List.getElem?_eq_some_iff.mp e).1
        simp at this; omega
      rw [List.getElem?_append_left hlt] at e
      obtain ⟨u, e1, e2⟩ := S.ob n o e
      refine ⟨u, by rw [ext_ne q, upd_ne (ne_of_none e1 hp)]; exact e1, ?_⟩
      cases o with
      | lp z xs => obtain ⟨ws, rfl, r⟩ := e2; exact ⟨ws, Eq.refl _, r.stp S s⟩
      | lr ns =>
        obtain ⟨e2, e3⟩ := e2
        refine ⟨?_, fun n hn => by have := e3 n hn; simp; omega⟩
        rw [e2]
        congr 1
        refine List.map_congr_left fun n hn => ?_
        rw [ext_ne (Nat.ne_of_lt (e3 n hn))]
      | dp z kvs => obtain ⟨ks, q, r⟩ := e2; exact ⟨ks, q, r.map fun h => h.stp S s⟩
      | no => exact e2.elim
  · have old : ∀ n, n < st.length → ρ n ≠ p := fun n hn z => by
      obtain ⟨u, e1, _⟩ := S.ob n st[n] (by simp [hn])
      rw [z, hp] at e1; cases e1
    simp only [List.length_append, List.length_cons, List.length_nil] at hn hk
    by_cases h1 : n = st.length <;> by_cases h2 : k = st.length
    · omega
    · subst h1
      rw [ext_same, ext_ne h2] at q
      exact absurd q.symm (old k (by omega))
    · subst h2
      rw [ext_same, ext_ne h1] at q
      exact absurd q (old n (by omega))
    · rw [ext_ne h1, ext_ne h2] at q
      exact S.inj n k (by omega) (by omega) q
  · simp only [List.length_append, List.length_cons, List.length_nil] at hn
    by_cases h1 : n = st.length
    · subst h1
      rw [ext_same]
      exact fun z => S.al p z hp
    · rw [ext_ne h1]
      exact S.out n (by omega)
  · by_cases q : a = p
    · subst q; rw [upd_same]; simp
    · rw [upd_ne q]; exact S.al a ha
theorem RelS.push {p : Addr} {z : Nat} {xs : List P} {vs : List V} (S : RelS K O ρ H st) (hp : H p = none) (r : ReqP K (Mt O ρ st) H xs vs) :
    RelS K O (ext ρ st.length p) (upd H p (.lst vs)) (st ++ [.lp z xs]) := S.pushO hp ⟨vs, Eq.refl _, r.stp S (Stp.push hp)⟩
theorem RelS.pushD {p : Addr} {xs : List (P × P)} {ks : List (L2.Key × V)} (S : RelS K O ρ H st) (hp : H p = none) (r : KReq K (Mt O ρ st) H xs ks) :
    RelS K O (ext ρ st.length p) (upd H p (.dK ks)) (st ++ [.dp 0 xs]) := S.pushO hp ⟨ks, .inl ⟨Eq.refl _, Eq.refl _⟩, r.map fun h => h.stp S (Stp.push hp)⟩
/-- a thing of the store is changed, or given away -/
theorem Stp.upd {n : Nat} {o o' : Ob} {h : HO} (hn : st[n]? = some o) (hl : isLive o = true) (hr : ∀ ns, o = .lr ns → ∃ ns', o' = .lr ns') (hq : ∀ z xs, o = .lp z xs → ∃ z' xs', o' = .lp z' xs') (hd : ∀ z xs, o = .dp z xs → ∃ z' xs', o' = .dp z' xs') (S : RelS K O ρ H st) : Stp ρ st H ρ (st.set n o') (L2.upd H (ρ n) h) := by
  have lt := (List.getElem?_eq_some_iff.mp hn).1
  have lv : live ρ st (ρ n) := ⟨n, o, hn, hl, Eq.refl _⟩
  refine ⟨by simp, fun _ _ => Eq.refl _, fun a ⟨k, u, h1, h2, h3⟩ => ?_, fun a u e q _ => ?_, fun k ns e => ?_, fun a ps e => ?_, fun k z xs e => ?_, fun k z xs e => ?_⟩
  · by_cases q : n = k
    · subst q; exact .inl (h3 ▸ lv)
    · rw [List.getElem?_set_ne q] at h1
      exact .inl ⟨k, u, h1, h2, h3⟩
  · have : a ≠ ρ n := fun z => q (z ▸ lv)
    rw [upd_ne this]; exact e
  · by_cases q : n = k
    · subst q
      rw [hn] at e; cases e
      obtain ⟨ns', e'⟩ := hr ns (Eq.refl _)
      exact ⟨ns', by rw [List.getElem?_set_self lt, e']⟩
    · exact ⟨ns, by rw [List.getElem?_set_ne q]; exact e⟩
  · have : a ≠ ρ n := fun z => by
      rcases live_lst S lv with ⟨vs, e'⟩ | ⟨vs, e'⟩ <;> (rw [z, e'] at e; cases e)
    exact ⟨#[], by rw [upd_ne this, e]; simp⟩
  · by_cases q : n = k
    · subst q
      rw [hn] at e; cases e
      obtain ⟨z', xs', e'⟩ := hq z xs (Eq.refl _)
      exact ⟨z', xs', by rw [List.getElem?_set_self lt, e']⟩
    · exact ⟨z, xs, by rw [List.getElem?_set_ne q]; exact e⟩
  · by_cases q : n = k
    · subst q
      rw [hn] at e; cases e
      obtain ⟨z', xs', e'⟩ := hd z xs (Eq.refl _)
      exact ⟨z', xs', by rw [List.getElem?_set_self lt, e']⟩
    · exact ⟨z, xs, by rw [List.getElem?_set_ne q]; exact e⟩
end
/-! ### another ground of owned places -/
section
variable {K : Fg} {O O' : Addr → Prop} {ρ ρ' : Nat → Addr} {σ : Sg} {H H' : Hp} {e : En} {st st' : Sr}
theorem LsD.oth {m m' : Addr → Prop} (h : ∀ a, H a ≠ none → m' a → m a) {a : Addr} {vs : List V} (q : LsD K m H a vs) : LsD K m' H a vs := by
  rcases q with ⟨q, n⟩ | q
  · refine .inl ⟨q, fun z => n (h a ?_ z)⟩
    rcases q with q | ⟨o, q⟩ <;> (rw [q]; simp)
  · exact .inr q
theorem pre_oth {m m' : Addr → Prop} (h : ∀ a, H a ≠ none → m' a → m a) : Pre K m H m' H := ⟨fun _ _ q => q.oth h, fun a ks q => ⟨q.1, fun z => q.2 (h a (dkd_ne q) z)⟩, fun _ _ e _ => e⟩
theorem RepP.oth {m m' : Addr → Prop} (h : ∀ a, H a ≠ none → m' a → m a) {d : P} {v : V} (q : RepP K m H d v) : RepP K m' H d v := q.mono (pre_oth h)
theorem ReqP.oth {m m' : Addr → Prop} (h : ∀ a, H a ≠ none → m' a → m a) {d : List P} {v : List V} (q : ReqP K m H d v) : ReqP K m' H d v := q.mono (pre_oth h)
/-- what an address of O' is: one of O, or one that holds nothing yet -/
def Wid (O O' : Addr → Prop) (H : Hp) : Prop := ∀ a, O' a → O a ∨ H a = none
theorem Wid.mt (w : Wid O O' H) : ∀ a, H a ≠ none → Mt O' ρ st a → Mt O ρ st a := fun a h q => by
  rcases q with q | q
  · rcases w a q with q | q
    · exact .inl q
    · exact absurd q h
  · exact .inr q
theorem Wid.rfl : Wid O O H := fun _ h => .inl h
theorem Rep.wid (w : Wid O O' H) {x : Vl} {v : V} (h : Rep K O ρ st H x v) : Rep K O' ρ st H x v := by
  cases x with
  | p x => exact RepP.oth w.mt h
  | r n => exact h
theorem RelS.wid (S : RelS K O ρ H st) (w : Wid O O' H) (al : ∀ a, O' a → H a ≠ none) : RelS K O' ρ H st := by
  refine ⟨fun n o h => ?_, S.inj, fun n h q => ?_, al⟩
  · obtain ⟨u, e1, e2⟩ := S.ob n o h
    refine ⟨u, e1, ?_⟩
    cases o with
    | lp z xs => obtain ⟨vs, rfl, r⟩ := e2; exact ⟨vs, Eq.refl _, r.oth w.mt⟩
    | lr ns => exact e2
    | dp z kvs => obtain ⟨ks, q, r⟩ := e2; exact ⟨ks, q, r.map fun h => h.oth w.mt⟩
    | no => exact e2.elim
  · rcases w _ q with q | q
    · exact S.out n h q
    · obtain ⟨u, e1, _⟩ := S.ob n st[n] (by simp [h])
      rw [q] at e1; cases e1
theorem RelE.wid (E : RelE K O ρ σ H e st) (w : Wid O O' H) : RelE K O' ρ σ H e st :=
  ⟨E.ln, fun i x h => let ⟨v, h1, h2⟩ := E.sl i x h; ⟨v, h1, h2.wid w⟩⟩
end
section
variable {K : Fg} {O O' O1 : Addr → Prop} {ρ ρ' : Nat → Addr} {σ : Sg} {H H' : Hp} {e : En} {st st' : Sr}
theorem LsD.go (w : Wid O O' H) (s : Stp ρ st H ρ' st' H') {a : Addr} {vs : List V} (h : LsD K (Mt O ρ st) H a vs) : LsD K (Mt O' ρ' st') H' a vs := by
  rcases LsD.oth (w.mt (ρ := ρ) (st := st)) h with ⟨h, n⟩ | h
  · have hn : ¬ live ρ st a := fun q => n (.inr q)
    have some' : H a ≠ none := by
      rcases h with h | ⟨o, h⟩ <;> (rw [h]; simp)
    refine .inl ⟨?_, fun q => ?_⟩
    · rcases h with h | ⟨o, h⟩
      · exact .inl (s.kp a _ h hn fun ps z => nomatch z)
      · exact .inr ⟨o, s.kp a _ h hn fun ps z => nomatch z⟩
    · rcases q with q | q
      · exact n (.inl q)
      · rcases s.lv a q with q | q
        · exact hn q
        · exact some' q
  · exact .inr h
theorem pre_go (S : RelS K O1 ρ H st) (w : Wid O O' H) (s : Stp ρ st H ρ' st' H') : Pre K (Mt O ρ st) H (Mt O' ρ' st') H' :=
  ⟨fun _ _ q => q.go w s, fun a ks q => dkd_step s.lv s.kp ⟨q.1, fun z => q.2 (w.mt a (dkd_ne q) z)⟩, fun a o e f => s.kp a o e (live_fz S e f) (fz_tbl f)⟩
theorem RepP.go (S : RelS K O1 ρ H st) (w : Wid O O' H) (s : Stp ρ st H ρ' st' H') {d : P} {v : V} (h : RepP K (Mt O ρ st) H d v) : RepP K (Mt O' ρ' st') H' d v :=
  h.mono (pre_go S w s)
theorem ReqP.go (S : RelS K O1 ρ H st) (w : Wid O O' H) (s : Stp ρ st H ρ' st' H') {d : List P} {v : List V} (h : ReqP K (Mt O ρ st) H d v) : ReqP K (Mt O' ρ' st') H' d v :=
  h.mono (pre_go S w s)
end
/-! ### the same, but for some owned places -/
structure XO (Xo O : Addr → Prop) (H : Hp) : Prop where
  o : ∀ a, Xo a → O a
  t : ∀ a, Xo a → (∃ vs, H a = some (.lst vs)) ∨ ∃ ks, H a = some (.dK ks)
theorem XO.no {O : Addr → Prop} {H : Hp} : XO (fun _ => False) O H := ⟨fun _ h => h.elim, fun _ h => h.elim⟩
structure StpX (Xo : Addr → Prop) (ρ : Nat → Addr) (st : Sr) (H : Hp) (ρ' : Nat → Addr) (st' : Sr) (H' : Hp) : Prop where
  lv : ∀ a, live ρ' st' a → live ρ st a ∨ H a = none
  kp : ∀ a o, H a = some o → ¬ live ρ st a → ¬ Xo a → (∀ ps, o ≠ .tbl ps) → H' a = some o
  th : ∀ a, H a ≠ none → H' a ≠ none
section
variable {K : Fg} {Xo O O' O1 : Addr → Prop} {ρ ρ' ρ'' : Nat → Addr} {H H' H'' : Hp} {st st' st'' : Sr}
theorem Stp.x (S : RelS K O ρ H st) (S' : RelS K O1 ρ' H' st') (s : Stp ρ st H ρ' st' H') : StpX Xo ρ st H ρ' st' H' := ⟨s.lv, fun a o h n _ t => s.kp a o h n t, fun _ h => s.there S S' h⟩
theorem StpX.rfl : StpX Xo ρ st H ρ st H := ⟨fun _ h => .inl h, fun _ _ h _ _ _ => h, fun _ h => h⟩
theorem StpX.tupK (xo : XO Xo O1 H) (S : RelS K O ρ H st) (s : StpX Xo ρ st H ρ' st' H') {a : Addr} {vs : List V} (h : SqT K H a vs) : SqT K H' a vs := by
  have nl : ∀ u, H a = some u → (∀ ws, u ≠ .lst ws) → (∀ ws, u ≠ .dK ws) → ¬ live ρ st a ∧ ¬ Xo a := fun u e n n2 => by
    refine ⟨fun q => ?_, fun q => ?_⟩
    · rcases live_lst S q with ⟨ws, e'⟩ | ⟨ws, e'⟩
      · rw [e] at e'; cases e'; exact n ws (Eq.refl _)
      · rw [e] at e'; cases e'; exact n2 ws (Eq.refl _)
    · rcases xo.t a q with ⟨ws, e'⟩ | ⟨ws, e'⟩
      · rw [e] at e'; cases e'; exact n ws (Eq.refl _)
      · rw [e] at e'; cases e'; exact n2 ws (Eq.refl _)
  rcases h with h | h
  · refine .inl ?_
    rcases h with h | ⟨o, h⟩
    · have q := nl _ h (fun ws z => nomatch z) fun ws z => nomatch z
      exact .inl (s.kp a _ h q.1 q.2 fun ps z => nomatch z)
    · have q := nl _ h (fun ws z => nomatch z) fun ws z => nomatch z
      exact .inr ⟨o, s.kp a _ h q.1 q.2 fun ps z => nomatch z⟩
  · exact .inr h
theorem LsD.goX (xo : XO Xo O H) (w : Wid O O' H) (s : StpX Xo ρ st H ρ' st' H') {a : Addr} {vs : List V} (h : LsD K (Mt O ρ st) H a vs) : LsD K (Mt O' ρ' st') H' a vs := by
  rcases h with ⟨h, n0⟩ | h
  · have nX : ¬ Xo a := fun q => n0 (.inl (xo.o a q))
    have some' : H a ≠ none := by
      rcases h with h | ⟨o, h⟩ <;> (rw [h]; simp)
    have n : ¬ Mt O' ρ st a := fun q => n0 (w.mt a some' q)
    have hn : ¬ live ρ st a := fun q => n (.inr q)
    refine .inl ⟨?_, fun q => ?_⟩
    · rcases h with h | ⟨o, h⟩
      · exact .inl (s.kp a _ h hn nX fun ps z => nomatch z)
      · exact .inr ⟨o, s.kp a _ h hn nX fun ps z => nomatch z⟩
    · rcases q with q | q
      · exact n (.inl q)
      · rcases s.lv a q with q | q
        · exact hn q
        · exact some' q
  · exact .inr h
theorem xo_fz (xo : XO Xo O H) {a : Addr} {o : HO} (e : H a = some o) (f : Fz o = true) : ¬ Xo a := fun q => by
  rcases xo.t a q with ⟨ws, z⟩ | ⟨ws, z⟩ <;> (rw [e] at z; cases z; cases f)
theorem pre_goX (S : RelS K O1 ρ H st) (xo : XO Xo O H) (w : Wid O O' H) (s : StpX Xo ρ st H ρ' st' H') : Pre K (Mt O ρ st) H (Mt O' ρ' st') H' :=
  ⟨fun _ _ q => q.goX xo w s, fun a ks q => by
    have hx : ¬ Xo a := fun z => q.2 (.inl (xo.o a z))
    have hn : ¬ live ρ st a := fun z => q.2 (.inr z)
    refine ⟨?_, fun z => ?_⟩
    · rcases q.1 with e | ⟨o, e⟩
      · exact .inl (s.kp a _ e hn hx fun ps z => nomatch z)
      · exact .inr ⟨o, s.kp a _ e hn hx fun ps z => nomatch z⟩
    · rcases z with z | z
      · exact q.2 (w.mt a (dkd_ne q) (.inl z) |>.elim .inl .inr)
      · rcases s.lv a z with z | z
        · exact hn z
        · exact (dkd_ne q) z, fun a o e f => s.kp a o e (live_fz S e f) (xo_fz xo e f) (fz_tbl f)⟩
theorem RepP.goX (S : RelS K O1 ρ H st) (xo : XO Xo O H) (w : Wid O O' H) (s : StpX Xo ρ st H ρ' st' H') {d : P} {v : V} (h : RepP K (Mt O ρ st) H d v) : RepP K (Mt O' ρ' st') H' d v :=
  h.mono (pre_goX S xo w s)
theorem ReqP.goX (S : RelS K O1 ρ H st) (xo : XO Xo O H) (w : Wid O O' H) (s : StpX Xo ρ st H ρ' st' H') {d : List P} {v : List V} (h : ReqP K (Mt O ρ st) H d v) : ReqP K (Mt O' ρ' st') H' d v :=
  h.mono (pre_goX S xo w s)
theorem StpX.trans (a : StpX Xo ρ st H ρ' st' H') (b : StpX Xo ρ' st' H' ρ'' st'' H'') : StpX Xo ρ st H ρ'' st'' H'' where
  lv := fun c h => by
    rcases b.lv c h with h | h
    · exact a.lv c h
    · exact .inr (Classical.byContradiction fun q => a.th c q h)
  kp := fun c o h hn hx ht => b.kp c o (a.kp c o h hn hx ht) (fun q => by
    rcases a.lv c q with q | q
    · exact hn q
    · rw [h] at q; cases q) hx ht
  th := fun c h => b.th c (a.th c h)
/-- .. then an owned place written -/
theorem StpX.own {D : Addr} {u : HO} (a : StpX Xo ρ st H ρ' st' H') (hD : Xo D) : StpX Xo ρ st H ρ' st' (upd H' D u) :=
  ⟨a.lv, fun c o h hn hx ht => by
    have : c ≠ D := fun z => hx (z ▸ hD)
    rw [upd_ne this]
    exact a.kp c o h hn hx ht, fun c h => by
    by_cases z : c = D
    · rw [z, upd_same]; simp
    · rw [upd_ne z]; exact a.th c h⟩
end
end Mi
end
section
set_option Elab.async false
set_option linter.all false
set_option maxRecDepth 100000
set_option maxHeartbeats 1000000
/-! M3: operators on data, by values. -/
namespace Mi
open PySem
open L2 (V HO Hp upd upd_same upd_ne SqL SqT Rd Cx Inv PE PT PA PS PSs PG PGs PI TE TT TA TS TG VK Ends RelV Vals ne_of_none OpR R2 EP CallR UnR)
/-- what is read as data: a list may be one of the store -/
inductive RdP (K : Fg) (m : Addr → Prop) (H : Hp) : P → V → Prop
  | of {x : P} {v : V} : RepP K m H x v → RdP K m H x v
  | lst {a : Addr} {ds : List P} {vs : List V} : LsX K H a vs → ReqP K m H ds vs → RdP K m H (.list ds) (.ref a)
section
variable {K : Fg} {m : Addr → Prop} {H : Hp} {O : Addr → Prop} {ρ : Nat → Addr} {st : Sr}
theorem RdP.int {i : Int} {v : V} (h : RdP K m H (.int i) v) : v = .int i := by cases h with | of h => exact h.int_inv
theorem RdP.bl {b : Bool} {v : V} (h : RdP K m H (.bool b) v) : v = .bl b := by cases h with | of h => exact h.bl_inv
theorem RdP.str {x : Str} {v : V} (h : RdP K m H (.str x) v) : v = .str x := by cases h with | of h => exact h.str_inv
theorem RdP.non {v : V} (h : RdP K m H .none v) : v = .non := by cases h with | of h => exact h.non_inv
theorem RdP.tup {ds : List P} {v : V} (h : RdP K m H (.tuple ds) v) : ∃ a vs, v = .ref a ∧ SqT K H a vs ∧ ReqP K m H ds vs := by cases h with | of h => exact h.tup_inv
theorem RdP.list {ds : List P} {v : V} (h : RdP K m H (.list ds) v) : ∃ a vs, v = .ref a ∧ LsX K H a vs ∧ ReqP K m H ds vs := by
  cases h with
  | of h => obtain ⟨a, vs, e, l, r⟩ := h.lst_inv; exact ⟨a, vs, e, l.x, r⟩
  | lst h r => exact ⟨_, _, rfl, h, r⟩
theorem RdP.ref {ds : List (P × P)} {v : V} (h : RdP K m H (.dict ds) v) : ∃ a, v = .ref a := by
  cases h with
  | of h => cases h with
    | dct => exact ⟨_, rfl⟩
    | exc => exact ⟨_, rfl⟩
theorem RdP.dp {x : P} {v : V} (h : RdP K m H x v) (e : x.hasDict = false) : L2.Dp K H v x := by
  cases h with
  | of h => exact h.dp e
  | lst h r => exact .lst h.sq (r.dp (by simpa [PyData.hasDict] using e))
theorem dd_rd (S : RelS K O ρ H st) {x : Vl} {v : V} {a : P} (h : Rep K O ρ st H x v) (e : dd x st = some a) : RdP K (Mt O ρ st) H a v := by
  cases x with
  | p x => simp only [dd, Option.some.injEq] at e; subst e; exact .of h
  | r n =>
    obtain ⟨hn, rfl⟩ := h
    simp only [dd] at e
    split at e
    · rename_i z xs q
      cases e
      obtain ⟨h, e1, vs, rfl, r⟩ := S.ob n _ q
      exact .lst (.inl (.inl e1)) r
    · cases e
inductive RdPs (K : Fg) (m : Addr → Prop) (H : Hp) : List P → List V → Prop
  | nil : RdPs K m H [] []
  | cons {x : P} {xs : List P} {v : V} {vs : List V} : RdP K m H x v → RdPs K m H xs vs → RdPs K m H (x :: xs) (v :: vs)
theorem ddL_rd (S : RelS K O ρ H st) : ∀ {xs : List Vl} {vs : List V} {as : List P}, Reps K O ρ st H xs vs → ddL xs st = some as → RdPs K (Mt O ρ st) H as vs
  | _, _, _, .nil, e => by cases e; exact .nil
  | _, _, as, .cons h r, e => by
    simp only [ddL] at e
    split at e
    · rename_i a bs e1 e2
      cases e
      exact .cons (dd_rd S h e1) (ddL_rd S r e2)
    · cases e
end
/-- data in, data out -/
def rP (K : Fg) (f : P → P → Option P) : R2 := fun x y H Q => ∃ (O : Addr → Prop) (ρ : Nat → Addr) (st : Sr) (a b c : P), RelS K O ρ H st ∧ RdP K (Mt O ρ st) H a x ∧ RdP K (Mt O ρ st) H b y ∧ f a b = some c ∧
  ∀ H' v, Stp ρ st H ρ st H' → RelS K O ρ H' st → RepP K (Mt O ρ st) H' c v → Q v H'
def rP1 (K : Fg) (f : P → Option P) : V → Hp → VK → Prop := fun x H Q => ∃ (O : Addr → Prop) (ρ : Nat → Addr) (st : Sr) (a c : P), RelS K O ρ H st ∧ RdP K (Mt O ρ st) H a x ∧ f a = some c ∧
  ∀ H' v, Stp ρ st H ρ st H' → RelS K O ρ H' st → RepP K (Mt O ρ st) H' c v → Q v H'
def rPL (K : Fg) (f : List P → Option P) : List V → Hp → VK → Prop := fun xs H Q => ∃ (O : Addr → Prop) (ρ : Nat → Addr) (st : Sr) (as : List P) (c : P), RelS K O ρ H st ∧ RdPs K (Mt O ρ st) H as xs ∧ f as = some c ∧
  ∀ H' v, Stp ρ st H ρ st H' → RelS K O ρ H' st → RepP K (Mt O ρ st) H' c v → Q v H'
theorem lim_line {n : Nat} (h : n ≤ lim) : n ≤ sizeLine := Nat.le_trans h (by decide +kernel)
section
variable {C : Cx} {pins : List (Addr × Obj)} {s : Shared} {σ : Sg} {H : Hp}
theorem LsX.get (I : Inv C pins σ H s) {a : Addr} {vs : List V} (h : LsX C.K H a vs) : ∃ (its : List Value) (n : Nat), Vals vs its ∧ s.heap.get? a = some { cls := .type "list", data := .seq its.toArray n } ∧ vs.length ≤ sizeLine := by
  rcases h with h | ⟨its, n, e, z, r⟩
  · obtain ⟨z, its, n, r, e⟩ := h.ok I.hok
    exact ⟨its, n, r, e, z⟩
  · exact ⟨its, n, r, I.kIn a _ e, z⟩
theorem lst_new {xs : List V} {its : List Value} {t : Nat} (I : Inv C pins σ H s) (r : Vals xs its) (z : xs.length ≤ sizeLine) :
    Inv C pins σ (upd H s.heap.objs.size (.lst xs)) { s with heap := s.heap.push { cls := .type "list", data := .seq its.toArray }, toks := t } :=
  I.laid (fun _ _ q => Heap.get?_push_of_some _ q) (Nat.le_refl _) ⟨z, its, 0, r, Heap.get?_push_size _ rfl⟩
theorem tup_new {xs : List V} {its : List Value} {t : Nat} (I : Inv C pins σ H s) (r : Vals xs its) (z : xs.length ≤ sizeLine) :
    Inv C pins σ (upd H s.heap.objs.size (.tup xs)) { s with heap := s.heap.push { cls := .type "tuple", data := .seq its.toArray }, toks := t } :=
  I.laid (fun _ _ q => Heap.get?_push_of_some _ q) (Nat.le_refl _) ⟨z, its, r, ⟨_, Heap.get?_push_size _ rfl, rfl, _, rfl⟩⟩
theorem frsh (I : Inv C pins σ H s) : H s.heap.objs.size = none := I.hok.fresh (Nat.le_refl _)
/-- two lists put together -/
theorem add_two {a b : Addr} {xs ys : List V} {Q : VK} (I : Inv C pins σ H s) (ha : LsX C.K H a xs) (hb : LsX C.K H b ys) (hz : xs.length + ys.length ≤ sizeLine)
    (q : ∀ p, H p = none → Q (.ref p) (upd H p (.lst (xs ++ ys)))) : wpAny (model C.prog C.w) C.A (binaryOp .Add (.ref a) (.ref b)) (EP C pins σ Q) C.xe s := by
  obtain ⟨ia, n, ra, ea, za⟩ := ha.get I
  obtain ⟨ib, k, rb, eb, zb⟩ := hb.get I
  have la := ra.length
  have lb := rb.length
  refine PySem.P.add_list ea eb ?_ (by simp only [List.size_toArray]; omega)
  rw [show ia.toArray ++ ib.toArray = (ia ++ ib).toArray by simp]
  exact ⟨.ref _, _, lst_new (t := s.toks) I (ra.append rb) (by simpa using hz), rfl, q _ (frsh I)⟩
theorem opAdd : OpR C (binaryOp .Add) (rP C.K (binP .Add)) := by
  intro pins s σ H x y v u Q I rx ry ⟨O, ρ, st, a, b, c, S, ra, rb, e, k⟩
  cases a with
  | int i =>
    cases b with
    | int j =>
      cases e
      exact L2.op_add pins s σ H x y v u Q I rx ry ⟨i, j, ra.int, rb.int, k _ _ .rfl S (.int _)⟩
    | _ => simp [binP] at e
  | str i =>
    cases b with
    | str j =>
      simp only [binP] at e
      split at e
      · cases e
        exact L2.op_add_str pins s σ H x y v u Q I rx ry ⟨i, j, ra.str, rb.str, lim_line (by assumption), k _ _ .rfl S (.str _)⟩
      · cases e
    | _ => simp [binP] at e
  | tuple ds =>
    cases b with
    | tuple es =>
      simp only [binP] at e
      split at e
      · rename_i hz
        cases e
        obtain ⟨p, xs, rfl, h1, r1⟩ := ra.tup
        obtain ⟨q, ys, rfl, h2, r2⟩ := rb.tup
        have l1 := r1.len
        have l2 := r2.len
        refine L2.op_catA pins s σ H _ _ v u Q I rx ry ⟨p, q, xs, ys, rfl, rfl, h1, h2, lim_line (by omega), fun z => ?_, fun _ z => ?_, fun _ _ t ht => ?_⟩
        · subst z
          cases r1
          exact k _ _ .rfl S (.tup h2 r2)
        · subst z
          cases r2
          rw [List.append_nil] at k
          exact k _ _ .rfl S (.tup h1 r1)
        · exact k _ _ (Stp.new S ht) (S.new ht) (rep_newT S ht (r1.app r2))
      · cases e
    | _ => simp [binP] at e
  | list ds =>
    cases b with
    | list es =>
      simp only [binP] at e
      split at e
      · rename_i hz
        cases e
        obtain ⟨p, xs, rfl, h1, r1⟩ := ra.list
        obtain ⟨q, ys, rfl, h2, r2⟩ := rb.list
        have l1 := r1.len
        have l2 := r2.len
        cases rx
        cases ry
        exact add_two I h1 h2 (lim_line (by omega)) fun t ht => k _ _ (Stp.new S ht) (S.new ht) (rep_newL S ht (r1.app r2))
      · cases e
    | _ => simp [binP] at e
  | _ => simp [binP] at e
theorem opSub : OpR C (binaryOp .Sub) (rP C.K (binP .Sub)) := by
  intro pins s σ H x y v u Q I rx ry ⟨O, ρ, st, a, b, c, S, ra, rb, e, k⟩
  cases a with
  | int i =>
    cases b with
    | int j =>
      cases e
      exact L2.op_sub pins s σ H x y v u Q I rx ry ⟨i, j, ra.int, rb.int, k _ _ .rfl S (.int _)⟩
    | _ => simp [binP] at e
  | _ => simp [binP] at e
theorem mul_ok {i j : Int} (h : MulOk i j) : IntMulOk i j := by
  rcases h with h | h | h
  · exact L2.CMul.ok (.inl h)
  · exact L2.CMul.ok (.inr h)
  · exact L2.CMulW.ok h
theorem rep_vals {xs : List V} {its : List Value} (r : Vals xs its) : ∀ n, Vals (rep xs n) (rep its n)
  | 0 => .nil
  | n + 1 => by
    show Vals (List.replicate (n + 1) xs).flatten (List.replicate (n + 1) its).flatten
    rw [List.replicate_succ, List.replicate_succ, List.flatten_cons, List.flatten_cons]
    exact r.append (rep_vals r n)
theorem rep_req {K : Fg} {m : Addr → Prop} {H : Hp} {xs : List P} {vs : List V} (r : ReqP K m H xs vs) : ∀ n, ReqP K m H (rep xs n) (rep vs n)
  | 0 => .nil
  | n + 1 => by
    show ReqP K m H (List.replicate (n + 1) xs).flatten (List.replicate (n + 1) vs).flatten
    rw [List.replicate_succ, List.replicate_succ, List.flatten_cons, List.flatten_cons]
    exact r.app (rep_req r n)
/-- a tuple times 1 is the tuple itself -/
theorem tuple_mul1 (l : Addr) (items : Array Value) (n : Nat) (dd : Option Addr) (sl : Array (Option Value)) (u : Tok) :
    Meets (Builtin.«tuple.__mul__» ⟨[.ref l, .int 1 u], []⟩) (fun _ R s => s.heap.get? l = some { cls := .type "tuple", dict := dd, data := .seq items n, slots := sl } ∧ R (.ok (.ret (Value.ref l))) s) :=
  .of_wp fun prog w A R s h => by
    obtain ⟨hp, g, d, tk, os⟩ := s
    obtain ⟨hl, h⟩ := h
    have f1 := AutoSeq1.idx_int
    have c1 : (items.isEmpty || (1 : Int) == 1) = true := by simp
    wp_walk using wpAny_loadPart' hl
    repeat (first
      | (refine wpAny_ite_false (decide_eq_false (by decide)) ?_; wp_walk using wpAny_loadPart' hl)
      | (refine wpAny_ite_true (decide_eq_true c1) ?_; wp_walk using wpAny_loadPart' hl)
      | (refine wpAny_ite_true (decide_eq_true (by decide)) ?_; wp_walk using wpAny_loadPart' hl))
    exact ⟨_, rfl, h⟩
theorem mul_tup1 {l : Addr} {xs : List V} {t : Tok} {Q : VK} (I : Inv C pins σ H s) (hT : SqT C.K H l xs)
    (q : Q (.ref l) H) : wpAny (model C.prog C.w) C.A (binaryOp .Mult (.ref l) (.int 1 t)) (EP C pins σ Q) C.xe s := by
  obtain ⟨its, r, ⟨⟨cls, dd, data, sl⟩, ho, hc, n, hd⟩, hs⟩ := I.tuple hT
  simp only at hc hd
  subst hc hd
  exact wpAny_binaryOp_repeat_ref (T := "tuple") (U := "int") (by decide) ⟨_, ho, rfl⟩ (fun s' => typeIs_int s' 1 t) L2.noFill_tuple_mul F.fills_int_mul F.slot_int_rmul L2.repeat_tuple F.slot_int_index.lookup
    (call_meets F.slot_int_rmul (typeIs_int s 1 t) F.entry_int_rmul (F.args_int_rmul_2 _ _) (L2.int_rmul_tuple 1 t l its.toArray n dd sl)
      ⟨ho, rfl, ⟨_, ho, rfl⟩, call_meets F.slot_tuple_mul ⟨_, ho, rfl⟩ F.entry_tuple_mul (F.args_tuple_mul_2 _ _) (tuple_mul1 l its.toArray n dd sl t) ⟨ho, .ref l, H, I, rfl, q⟩⟩)
/-- a list times an int -/
theorem mul_two {l : Addr} {xs : List V} {k : Int} {t : Tok} {Q : VK} (I : Inv C pins σ H s) (ha : LsX C.K H l xs) (h1 : 0 ≤ k) (h2 : k < 2 ^ 63) (hz : xs.length * k.toNat ≤ sizeLine)
    (q : ∀ p, H p = none → Q (.ref p) (upd H p (.lst (rep xs k.toNat)))) : wpAny (model C.prog C.w) C.A (binaryOp .Mult (.ref l) (.int k t)) (EP C pins σ Q) C.xe s := by
  obtain ⟨its, n, r, e, z⟩ := ha.get I
  have hl : xs.length = its.length := r.length
  have hlen : its.toArray.size * k.toNat ≤ sizeLine := by rw [List.size_toArray, ← hl]; exact hz
  have hcap : ¬ its.toArray.size * k.toNat > (2 ^ 63 - 1) / 8 := by
    have : (sizeLine : Nat) ≤ (2 ^ 63 - 1) / 8 := by decide
    omega
  have hfit : ¬ (!Builtin.List.listFitsIndex k) = true := by
    rw [PySem.fitsIndex_both (by omega) h2]
    exact Bool.false_ne_true
  have hlong : ¬ Builtin.List.listTooLong (its.toArray.size * k.toNat) = true := by
    rw [L2.notLongL hlen]
    exact Bool.false_ne_true
  have hnew : List.foldl (fun x1 x2 => x1 ++ x2) #[] (List.replicate (if its.toArray.isEmpty = true then 0 else k.toNat) its.toArray) = (List.replicate k.toNat its).flatten.toArray := by
    rw [L2.size_rep]
    cases its with
    | nil => simp
    | cons a r' => rw [if_neg (by simp)]
  refine wpAny_binaryOp_repeat_ref (T := "list") (U := "int") (by decide) ⟨_, e, rfl⟩ (fun s' => typeIs_int s' k t) PySem.noFill_list_mul F.fills_int_mul F.slot_int_rmul PySem.repeat_list F.slot_int_index.lookup
    (call_meets F.slot_int_rmul (typeIs_int s k t) F.entry_int_rmul (F.args_int_rmul_2 _ _) (PySem.int___rmul___int_list k t l its.toArray n)
      ⟨e, rfl, ⟨_, e, rfl⟩, call_meets F.slot_list_mul ⟨_, e, rfl⟩ F.entry_list_mul (F.args_list_mul_2 _ _) (AutoListH.list___mul___list_int_3 l its.toArray n k t hfit hcap hlong) ⟨e, ?_⟩⟩)
  rw [hnew]
  exact ⟨.ref _, _, lst_new (t := s.toks) I (r.rep k.toNat) (by rw [PyProof.Rows.lm_len_rep_flat, Nat.mul_comm]; exact hz), rfl, q _ (frsh I)⟩
theorem opMul : OpR C (binaryOp .Mult) (rP C.K (binP .Mult)) := by
  intro pins s σ H x y v u Q I rx ry ⟨O, ρ, st, a, b, c, S, ra, rb, e, k⟩
  cases a with
  | int i =>
    cases b with
    | int j =>
      simp only [binP] at e
      split at e
      · rename_i hm
        cases e
        cases ra.int
        cases rb.int
        obtain ⟨t, rfl⟩ := rx
        obtain ⟨t', rfl⟩ := ry
        exact PyProof.Rows.mul_int ⟨.int _, H, I.tok _, ⟨_, rfl⟩, k _ _ .rfl S (.int _)⟩ (mul_ok hm)
      · cases e
    | _ => simp [binP] at e
  | tuple ds =>
    cases b with
    | int j =>
      simp only [binP] at e
      split at e
      · rename_i hz
        cases e
        obtain ⟨p, xs, rfl, h1, r1⟩ := ra.tup
        cases rb.int
        have l1 := r1.len
        by_cases h11 : j = 1
        · subst h11
          cases rx
          obtain ⟨t, rfl⟩ := ry
          have e1 : rep ds (1 : Int).toNat = ds := by simp [rep]
          rw [e1] at k
          exact mul_tup1 I h1 (k _ _ .rfl S (.tup h1 r1))
        refine L2.op_repT pins s σ H _ _ v u Q I rx ry ⟨p, j, xs, rfl, rfl, h1, ?_, by omega, hz.2.2.1, by omega, fun t ht => ?_⟩
        · rintro rfl
          cases r1
          exact hz.1 rfl
        · exact k _ _ (Stp.new S ht) (S.new ht) (rep_newT S ht (rep_req r1 j.toNat))
      · cases e
    | _ => simp [binP] at e
  | list ds =>
    cases b with
    | int j =>
      simp only [binP] at e
      split at e
      · rename_i hz
        cases e
        obtain ⟨p, xs, rfl, h1, r1⟩ := ra.list
        cases rb.int
        have l1 := r1.len
        cases rx
        obtain ⟨t, rfl⟩ := ry
        exact mul_two I h1 (k := j) hz.1 (by have := hz.2.1; unfold lim at this; omega) (lim_line (by rw [← l1]; exact hz.2.2)) fun p hp => k _ _ (Stp.new S hp) (S.new hp) (rep_newL S hp (rep_req r1 j.toNat))
      · cases e
    | _ => simp [binP] at e
  | _ => simp [binP] at e
theorem opDiv : OpR C (binaryOp .FloorDiv) (rP C.K (binP .FloorDiv)) := by
  intro pins s σ H x y v u Q I rx ry ⟨O, ρ, st, a, b, c, S, ra, rb, e, k⟩
  cases a with
  | int i =>
    cases b with
    | int j =>
      simp only [binP] at e
      split at e
      · rename_i hd
        cases e
        cases ra.int
        cases rb.int
        rcases hd with hd | hd
        · exact L2.op_fdiv pins s σ H _ _ v u Q I rx ry ⟨i, j, rfl, rfl, hd, k _ _ .rfl S (.int _)⟩
        · exact L2.op_fdivW pins s σ H _ _ v u Q I rx ry ⟨i, j, rfl, rfl, hd, k _ _ .rfl S (.int _)⟩
      · cases e
    | _ => simp [binP] at e
  | _ => simp [binP] at e
theorem opMod : OpR C (binaryOp .Mod) (rP C.K (binP .Mod)) := by
  intro pins s σ H x y v u Q I rx ry ⟨O, ρ, st, a, b, c, S, ra, rb, e, k⟩
  cases a with
  | int i =>
    cases b with
    | int j =>
      simp only [binP] at e
      split at e
      · rename_i hd
        cases e
        cases ra.int
        cases rb.int
        exact L2.op_mod pins s σ H _ _ v u Q I rx ry ⟨i, j, rfl, rfl, hd, k _ _ .rfl S (.int _)⟩
      · cases e
    | _ => simp [binP] at e
  | _ => simp [binP] at e
theorem opPow : OpR C (binaryOp .Pow) (rP C.K (binP .Pow)) := by
  intro pins s σ H x y v u Q I rx ry ⟨O, ρ, st, a, b, c, S, ra, rb, e, k⟩
  cases a with
  | int i =>
    cases b with
    | int j =>
      simp only [binP] at e
      split at e
      · rename_i hd
        cases e
        cases ra.int
        cases rb.int
        obtain ⟨h0, hd | hd⟩ := hd
        · exact L2.op_pow pins s σ H _ _ v u Q I rx ry ⟨i, j, rfl, rfl, ⟨h0, hd.2, by have := hd.1; omega⟩, k _ _ .rfl S (.int _)⟩
        · obtain ⟨t, rfl⟩ := rx
          obtain ⟨t', rfl⟩ := ry
          refine PyProof.Rows.pow_int h0 ?_ ⟨.int _, H, I.tok _, ⟨_, rfl⟩, k _ _ .rfl S (.int _)⟩
          have hb : (Builtin.Int.intBits i : Int) ≤ i.natAbs.log2 + 1 := by
            unfold Builtin.Int.intBits
            split <;> omega
          exact Int.le_trans (Int.mul_le_mul_of_nonneg_right hb h0) (by have : (2:Int)^27 = 134217728 := by decide
                                                                        omega)
      · cases e
    | _ => simp [binP] at e
  | _ => simp [binP] at e
theorem opAnd : OpR C (binaryOp .BitAnd) (rP C.K (binP .BitAnd)) := by
  intro pins s σ H x y v u Q I rx ry ⟨O, ρ, st, a, b, c, S, ra, rb, e, k⟩
  cases a with
  | int i =>
    cases b with
    | int j =>
      simp only [binP] at e
      cases e
      cases ra.int
      cases rb.int
      exact L2.op_and pins s σ H _ _ v u Q I rx ry ⟨i, j, rfl, rfl, k _ _ .rfl S (.int _)⟩
    | _ => simp [binP] at e
  | _ => simp [binP] at e
theorem opOr : OpR C (binaryOp .BitOr) (rP C.K (binP .BitOr)) := by
  intro pins s σ H x y v u Q I rx ry ⟨O, ρ, st, a, b, c, S, ra, rb, e, k⟩
  cases a with
  | int i =>
    cases b with
    | int j =>
      simp only [binP] at e
      cases e
      cases ra.int
      cases rb.int
      exact L2.op_or pins s σ H _ _ v u Q I rx ry ⟨i, j, rfl, rfl, k _ _ .rfl S (.int _)⟩
    | _ => simp [binP] at e
  | _ => simp [binP] at e
theorem opBin (o : Operator) : OpR C (binaryOp o) (rP C.K (binP o)) := by
  cases o with
  | Add => exact opAdd
  | Sub => exact opSub
  | Mult => exact opMul
  | FloorDiv => exact opDiv
  | Mod => exact opMod
  | Pow => exact opPow
  | BitAnd => exact opAnd
  | BitOr => exact opOr
  | _ =>
    intro pins s σ H x y v u Q I rx ry ⟨O, ρ, st, a, b, c, S, ra, rb, e, k⟩
    simp [binP] at e
theorem unNeg : L2.UnR C (unaryOp .USub) (rP1 C.K negP) := by
  intro pins s σ H x v Q I rx ⟨O, ρ, st, a, c, S, ra, e, k⟩
  cases a with
  | int i =>
    cases e
    exact L2.un_neg pins s σ H x v Q I rx ⟨i, ra.int, k _ _ .rfl S (.int _)⟩
  | _ => simp [negP] at e
end
end Mi
end
section
set_option Elab.async false
set_option linter.all false
set_option maxRecDepth 100000
set_option maxHeartbeats 1000000
/-! M4: comparisons, truth, subscripts, built-in calls, by data. -/
namespace Mi
open PySem
open L2 (V HO Hp upd upd_same upd_ne SqL SqT Rd Cx Inv PE PT PA PS PSs PG PGs PI TE TT TA TS TG VK Ends RelV Vals ne_of_none OpR R2 EP CallR UnR IxR SlR TruR Dp TyX TyOf)
/-- data in, a bool out -/
def rC (K : Fg) (o : CmpOp) : R2 := fun x y H Q => ∃ (O : Addr → Prop) (ρ : Nat → Addr) (st : Sr) (a b : P) (c : Bool), RelS K O ρ H st ∧ RdP K (Mt O ρ st) H a x ∧ RdP K (Mt O ρ st) H b y ∧ cmpP o a b = some c ∧ Q (.bl c) H
section
variable {C : Cx} {pins : List (Addr × Obj)} {s : Shared} {σ : Sg} {H : Hp}
theorem sh_int (i : Int) : SeqAt.shaped (.int i) = true := rfl
theorem cEq (hu : C.A.units + 65 < cLine) : OpR C (compareOp .Eq) (rC C.K .Eq) := by
  intro pins s σ H x y v u Q I rx ry ⟨O, ρ, st, a, b, c, S, ra, rb, e, k⟩
  have gen : ∀ c, (if sh a && sh b then some (PyData.eqv a b) else none) = some c → Q (.bl c) H → wpAny (model C.prog C.w) C.A (compareOp .Eq v u) (EP C pins σ Q) C.xe s := by
    intro c h k
    split at h
    · rename_i q
      rw [Bool.and_eq_true] at q
      cases h
      exact L2.op_eqD (by omega) pins s σ H x y v u Q I rx ry ⟨a, b, ra.dp (shaped_dict q.1), rb.dp (shaped_dict q.2), q.1, q.2, k⟩
    · cases h
  have old : ∀ (x' y' : V), x = x' → y = y' → L2.scal x' y' = true → Q (.bl (decide (x' = y'))) H → wpAny (model C.prog C.w) C.A (compareOp .Eq v u) (EP C pins σ Q) C.xe s := by
    rintro x' y' rfl rfl h q
    exact L2.op_eq pins s σ H x y v u Q I rx ry ⟨h, q⟩
  cases a with
  | int i =>
    cases b with
    | int j => cases e; exact old _ _ ra.int rb.int rfl (by simpa using k)
    | _ => exact gen c e k
  | str i =>
    cases b with
    | str j => cases e; exact old _ _ ra.str rb.str rfl (by simpa using k)
    | _ => exact gen c e k
  | _ => exact gen c e k
theorem cNe (hu : C.A.units + 65 < cLine) : OpR C (compareOp .NotEq) (rC C.K .NotEq) := by
  intro pins s σ H x y v u Q I rx ry ⟨O, ρ, st, a, b, c, S, ra, rb, e, k⟩
  have gen : ∀ c, (if sh a && sh b then some (!PyData.eqv a b) else none) = some c → Q (.bl c) H → wpAny (model C.prog C.w) C.A (compareOp .NotEq v u) (EP C pins σ Q) C.xe s := by
    intro c h k
    split at h
    · rename_i q
      rw [Bool.and_eq_true] at q
      cases h
      exact L2.op_neD (by omega) pins s σ H x y v u Q I rx ry ⟨a, b, ra.dp (shaped_dict q.1), rb.dp (shaped_dict q.2), q.1, q.2, k⟩
    · cases h
  have old : ∀ (x' y' : V), x = x' → y = y' → L2.scal x' y' = true → Q (.bl (!decide (x' = y'))) H → wpAny (model C.prog C.w) C.A (compareOp .NotEq v u) (EP C pins σ Q) C.xe s := by
    rintro x' y' rfl rfl h q
    exact L2.op_ne pins s σ H x y v u Q I rx ry ⟨h, q⟩
  cases a with
  | int i =>
    cases b with
    | int j => cases e; exact old _ _ ra.int rb.int rfl (by simpa using k)
    | _ => exact gen c e k
  | str i =>
    cases b with
    | str j => cases e; exact old _ _ ra.str rb.str rfl (by simpa using k)
    | _ => exact gen c e k
  | _ => exact gen c e k
theorem cInt {o : CmpOp} {f : Int → Int → Bool} (hf : ∀ a b c, cmpP o a b = some c → ∃ i j, a = .int i ∧ b = .int j ∧ c = f i j) (rule : OpR C (compareOp o) (L2.rI0 fun i j => .bl (f i j))) : OpR C (compareOp o) (rC C.K o) := by
  intro pins s σ H x y v u Q I rx ry ⟨O, ρ, st, a, b, c, S, ra, rb, e, k⟩
  obtain ⟨i, j, rfl, rfl, rfl⟩ := hf a b c e
  exact rule pins s σ H x y v u Q I rx ry ⟨i, j, ra.int, rb.int, k⟩
theorem cIn (hu : C.A.units + 65 < cLine) : OpR C (compareOp .In) (rC C.K .In) := by
  intro pins s σ H x y v u Q I rx ry ⟨O, ρ, st, a, b, c, S, ra, rb, e, k⟩
  cases b with
  | list ys =>
    simp only [cmpP] at e
    split at e
    · rename_i q
      rw [Bool.and_eq_true] at q
      cases e
      exact L2.op_inD hu pins s σ H x y v u Q I rx ry ⟨a, ys, ra.dp (shaped_dict q.1), rb.dp (shaped_dict q.2), q.1, q.2, k⟩
    · cases e
  | tuple ys =>
    simp only [cmpP] at e
    split at e
    · rename_i q
      rw [Bool.and_eq_true] at q
      cases e
      obtain ⟨as, r1⟩ := Dp.reads I a x v (ra.dp (shaped_dict q.1)) rx
      obtain ⟨bs, r2⟩ := Dp.reads I (.tuple ys) y u (rb.dp (shaped_dict q.2)) ry
      exact SeqAt.in_tuple_reads r2 r1 (SeqAt.canLay_of_shaped q.2) (SeqAt.canLay_of_shaped q.1) (PyProof.Rows.room_in_shaped q.1 hu) ⟨.bl _, H, I, rfl, k⟩
    · cases e
  | _ => simp [cmpP] at e
theorem cNotIn (hu : C.A.units + 65 < cLine) : OpR C (compareOp .NotIn) (rC C.K .NotIn) := by
  intro pins s σ H x y v u Q I rx ry ⟨O, ρ, st, a, b, c, S, ra, rb, e, k⟩
  cases b with
  | list ys =>
    simp only [cmpP] at e
    split at e
    · rename_i q
      rw [Bool.and_eq_true] at q
      cases e
      exact L2.op_notInD hu pins s σ H x y v u Q I rx ry ⟨a, ys, ra.dp (shaped_dict q.1), rb.dp (shaped_dict q.2), q.1, q.2, k⟩
    · cases e
  | tuple ys =>
    simp only [cmpP] at e
    split at e
    · rename_i q
      rw [Bool.and_eq_true] at q
      cases e
      obtain ⟨as, r1⟩ := Dp.reads I a x v (ra.dp (shaped_dict q.1)) rx
      obtain ⟨bs, r2⟩ := Dp.reads I (.tuple ys) y u (rb.dp (shaped_dict q.2)) ry
      exact SeqAt.notIn_tuple_reads r2 r1 (SeqAt.canLay_of_shaped q.2) (SeqAt.canLay_of_shaped q.1) (PyProof.Rows.room_in_shaped q.1 hu) ⟨.bl _, H, I, rfl, k⟩
    · cases e
  | _ => simp [cmpP] at e
theorem RdP.isN {m : Addr → Prop} {x : P} {v : V} (h : RdP C.K m H x v) : decide (v = V.non) = (match x with | .none => true | _ => false) := by
  cases h with
  | of h => cases h <;> simp [exP]
  | lst _ _ => simp
theorem isB {M : Model} {A : Around} {E : Value → Shared → Prop} {s : Shared} {i j : Bool} {Q : Value → Shared → Prop} (q : Q (.bool (i == j)) s) : wpAny M A (compareOp .Is (.bool i) (.bool j)) Q E s := by
  show wpAny _ _ ((isSame (Value.bool i) (Value.bool j)) >>= fun z => pure (Value.bool z)) _ _ s
  refine wpAny_bind (wpAny_isSame_plain rfl (wpAny_pure ?_))
  cases i <;> cases j <;> exact q
theorem isNB {M : Model} {A : Around} {E : Value → Shared → Prop} {s : Shared} {i j : Bool} {Q : Value → Shared → Prop} (q : Q (.bool (!(i == j))) s) : wpAny M A (compareOp .IsNot (.bool i) (.bool j)) Q E s := by
  show wpAny _ _ ((isSame (Value.bool i) (Value.bool j)) >>= fun z => pure (Value.bool (!z))) _ _ s
  refine wpAny_bind (wpAny_isSame_plain rfl (wpAny_pure ?_))
  cases i <;> cases j <;> exact q
theorem cIs : OpR C (compareOp .Is) (rC C.K .Is) := by
  intro pins s σ H x y v u Q I rx ry ⟨O, ρ, st, a, b, c, S, ra, rb, e, k⟩
  cases b with
  | none =>
    refine L2.op_isN pins s σ H x y v u Q I rx ry ⟨rb.non, ?_⟩
    rw [ra.isN]
    cases a <;> (cases e; exact k)
  | bool j =>
    cases a with
    | bool i =>
      cases e
      rw [ra.bl] at rx
      rw [rb.bl] at ry
      cases rx
      cases ry
      refine isB (L2.fin_bl I k rfl)
    | _ => cases e
  | _ => cases a <;> cases e
theorem cIsNot : OpR C (compareOp .IsNot) (rC C.K .IsNot) := by
  intro pins s σ H x y v u Q I rx ry ⟨O, ρ, st, a, b, c, S, ra, rb, e, k⟩
  cases b with
  | none =>
    refine L2.op_notN pins s σ H x y v u Q I rx ry ⟨rb.non, ?_⟩
    rw [ra.isN]
    cases a <;> (cases e; exact k)
  | bool j =>
    cases a with
    | bool i =>
      cases e
      rw [ra.bl] at rx
      rw [rb.bl] at ry
      cases rx
      cases ry
      refine isNB (L2.fin_bl I k rfl)
    | _ => cases e
  | _ => cases a <;> cases e
theorem opCmp (hu : C.A.units + 65 < cLine) (o : CmpOp) : OpR C (compareOp o) (rC C.K o) := by
  cases o with
  | Eq => exact cEq hu
  | NotEq => exact cNe hu
  | In => exact cIn hu
  | NotIn => exact cNotIn hu
  | Is => exact cIs
  | IsNot => exact cIsNot
  | Lt =>
    refine cInt (f := fun i j => decide (i < j)) (fun a b c h => ?_) L2.op_lt
    cases a <;> cases b <;> cases h
    exact ⟨_, _, rfl, rfl, rfl⟩
  | LtE =>
    refine cInt (f := fun i j => decide (i ≤ j)) (fun a b c h => ?_) L2.op_le
    cases a <;> cases b <;> cases h
    exact ⟨_, _, rfl, rfl, rfl⟩
  | Gt =>
    refine cInt (f := fun i j => decide (j < i)) (fun a b c h => ?_) L2.op_gt
    cases a <;> cases b <;> cases h
    exact ⟨_, _, rfl, rfl, rfl⟩
  | GtE =>
    refine cInt (f := fun i j => decide (j ≤ i)) (fun a b c h => ?_) L2.op_ge
    cases a <;> cases b <;> cases h
    exact ⟨_, _, rfl, rfl, rfl⟩
/-! ### truth -/
theorem rd_tru {m : Addr → Prop} {x : P} {v : V} {b : Bool} (h : RdP C.K m H x v) (e : tru x = some b) : L2.TruV C.K v H b := by
  cases x with
  | none => cases e; cases h.non; exact rfl
  | bool b => cases e; cases h.bl; exact rfl
  | int i => cases e; cases h.int; exact rfl
  | str y =>
    simp only [tru] at e
    split at e
    · cases e; cases h.str; exact ⟨lim_line (by assumption), rfl⟩
    · cases e
  | list ds =>
    cases e
    obtain ⟨a, vs, rfl, l, r⟩ := h.list
    refine .inl ⟨vs, l.sq, ?_⟩
    cases r <;> rfl
  | tuple ds =>
    cases e
    obtain ⟨a, vs, rfl, l, r⟩ := h.tup
    refine .inr (.inl ⟨vs, l, ?_⟩)
    cases r <;> rfl
  | dict kvs => cases e
/-! ### len and others of one piece of data -/
theorem vals1 {x : V} {us : List Value} (r : Vals [x] us) : ∃ u, us = [u] ∧ RelV x u := L2.vals1 r
theorem RdPs.one {m : Addr → Prop} {a : P} {xs : List V} (h : RdPs C.K m H [a] xs) : ∃ x, xs = [x] ∧ RdP C.K m H a x := by
  cases h with
  | cons h r => cases r; exact ⟨_, rfl, h⟩
theorem RdPs.two {m : Addr → Prop} {a b : P} {xs : List V} (h : RdPs C.K m H [a, b] xs) : ∃ x y, xs = [x, y] ∧ RdP C.K m H a x ∧ RdP C.K m H b y := by
  cases h with
  | cons h r =>
    obtain ⟨y, rfl, h2⟩ := r.one
    exact ⟨_, _, rfl, h, h2⟩
def BiR (C : Cx) (f : Bi) (u : Value) : Prop := CallR C u (rPL C.K (biP f))
theorem bLen : BiR C .len (.builtin "len") := by
  intro pins s σ H xs us Q I rs ⟨O, ρ, st, as, c, S, ra, e, k⟩
  cases as with
  | nil => simp [biP] at e
  | cons a as =>
    cases as with
    | cons b as => cases a <;> simp [biP] at e
    | nil =>
      obtain ⟨x, rfl, h⟩ := RdPs.one (C := C) ra
      cases a with
      | str y =>
        simp only [biP] at e
        split at e
        · cases e
          cases h.str
          exact L2.call_len pins s σ H _ us Q I rs ⟨_, _, rfl, ⟨lim_line (by assumption), rfl⟩, k _ _ .rfl S (.int _)⟩
        · cases e
      | list ds =>
        cases e
        obtain ⟨a, vs, rfl, l, r⟩ := h.list
        refine L2.call_len pins s σ H _ us Q I rs ⟨_, _, rfl, .inl ⟨vs, l.sq, rfl⟩, ?_⟩
        rw [← r.len]
        exact k _ _ .rfl S (.int _)
      | tuple ds =>
        cases e
        obtain ⟨a, vs, rfl, l, r⟩ := h.tup
        refine L2.call_len pins s σ H _ us Q I rs ⟨_, _, rfl, .inr ⟨vs, l, rfl⟩, ?_⟩
        rw [← r.len]
        exact k _ _ .rfl S (.int _)
      | _ => simp [biP] at e
theorem bInt : BiR C .int (.type "int") := by
  intro pins s σ H xs us Q I rs ⟨O, ρ, st, as, c, S, ra, e, k⟩
  cases as with
  | nil => simp [biP] at e
  | cons a as =>
    cases as with
    | cons b as => cases a <;> simp [biP] at e
    | nil =>
      obtain ⟨x, rfl, h⟩ := RdPs.one (C := C) ra
      cases a with
      | int i => cases e; exact L2.call_int1 pins s σ H _ us Q I rs (.inl ⟨i, by rw [h.int], k _ _ .rfl S (.int _)⟩)
      | bool i => cases e; exact L2.call_int1 pins s σ H _ us Q I rs (.inr ⟨i, by rw [h.bl], k _ _ .rfl S (.int _)⟩)
      | _ => simp [biP] at e
theorem bAbs : BiR C .abs (.builtin "abs") := by
  intro pins s σ H xs us Q I rs ⟨O, ρ, st, as, c, S, ra, e, k⟩
  cases as with
  | nil => simp [biP] at e
  | cons a as =>
    cases as with
    | cons b as => cases a <;> simp [biP] at e
    | nil =>
      obtain ⟨x, rfl, h⟩ := RdPs.one (C := C) ra
      cases a with
      | int i => cases e; exact L2.call_abs pins s σ H _ us Q I rs ⟨i, by rw [h.int], k _ _ .rfl S (.int _)⟩
      | _ => simp [biP] at e
theorem maxI_mem : ∀ (r : List Int) (m : Int), (maxI m r ∈ m :: r) ∧ ∀ a ∈ m :: r, a ≤ maxI m r
  | [], m => by simp [maxI]
  | x :: r, m => by
    obtain ⟨h1, h2⟩ := maxI_mem r (if x > m then x else m)
    simp only [maxI]
    refine ⟨?_, fun a ha => ?_⟩
    · rcases List.mem_cons.mp h1 with h | h
      · rw [h]
        split <;> simp
      · simp [h]
    · have h3 := h2 (if x > m then x else m) (by simp)
      have h4 : m ≤ (maxI (if x > m then x else m) r) ∧ x ≤ (maxI (if x > m then x else m) r) := by
        generalize maxI (if x > m then x else m) r = M at h3 ⊢
        split at h3 <;> omega
      rcases List.mem_cons.mp ha with rfl | ha
      · exact h4.1
      · rcases List.mem_cons.mp ha with rfl | ha
        · exact h4.2
        · exact h2 a (by simp [ha])
theorem minI_mem : ∀ (r : List Int) (m : Int), (minI m r ∈ m :: r) ∧ ∀ a ∈ m :: r, minI m r ≤ a
  | [], m => by simp [minI]
  | x :: r, m => by
    obtain ⟨h1, h2⟩ := minI_mem r (if x < m then x else m)
    simp only [minI]
    refine ⟨?_, fun a ha => ?_⟩
    · rcases List.mem_cons.mp h1 with h | h
      · rw [h]
        split <;> simp
      · simp [h]
    · have h3 := h2 (if x < m then x else m) (by simp)
      have h4 : (minI (if x < m then x else m) r) ≤ m ∧ (minI (if x < m then x else m) r) ≤ x := by
        generalize minI (if x < m then x else m) r = M at h3 ⊢
        split at h3 <;> omega
      rcases List.mem_cons.mp ha with rfl | ha
      · exact h4.1
      · rcases List.mem_cons.mp ha with rfl | ha
        · exact h4.2
        · exact h2 a (by simp [ha])
theorem reqs_read (I : Inv C pins σ H s) {m : Addr → Prop} : ∀ {ds : List P} {vs : List V} {us : List Value}, ReqP C.K m H ds vs → Vals vs us → PyData.hasDictAll ds = false → ∃ as, ReadsAll s.heap us ds as
  | _, _, _, .nil, .nil, _ => ⟨_, .nil⟩
  | _, _, _, .cons h r, .cons q t, e => by
    simp only [PyData.hasDictAll, Bool.or_eq_false_iff] at e
    obtain ⟨as, h1⟩ := Dp.reads I _ _ _ (h.dp e.1) q
    obtain ⟨bs, h2⟩ := reqs_read I r t e.2
    exact ⟨_, .cons h1 h2⟩
theorem reqs_at (I : Inv C pins σ H s) {m : Addr → Prop} : ∀ {ds : List P} {vs : List V} {us : List Value}, ReqP C.K m H ds vs → Vals vs us → ∀ (i : Nat) (v : Value), us[i]? = some v → ∃ d w, d ∈ ds ∧ RepP C.K m H d w ∧ RelV w v
  | _, _, _, .nil, .nil => fun i v h => by simp at h
  | _, _, _, .cons h r, .cons q t => fun i v e => by
    cases i with
    | zero => cases e; exact ⟨_, _, List.mem_cons_self, h, q⟩
    | succ i =>
      obtain ⟨d, w, h1, h2, h3⟩ := reqs_at I r t i v e
      exact ⟨d, w, List.mem_cons_of_mem _ h1, h2, h3⟩
theorem okMx_al {xs : List P} (h : okMx xs = true) : W.AlikeAll xs ∧ PyData.depthAll xs ≤ 50 := by
  unfold okMx at h
  rw [Bool.and_eq_true] at h
  obtain ⟨h1, h2⟩ := h
  have h3 : ∀ x ∈ xs, isNon x = false ∧ x.depth ≤ 50 := fun x hx => by
    have := List.all_eq_true.mp h2 x hx
    rw [Bool.and_eq_true] at this
    exact ⟨by simpa using this.1, of_decide_eq_true this.2⟩
  refine ⟨⟨fun x hx y hy => List.all_eq_true.mp (List.all_eq_true.mp h1 x hx) y hy, fun x hx e => ?_⟩, ?_⟩
  · rw [e] at hx
    have := (h3 _ hx).1
    cases this
  · clear h1 h2
    induction xs with
    | nil => simp [PyData.depthAll]
    | cons x r ih =>
      have := (h3 x List.mem_cons_self).2
      have := ih fun y hy => h3 y (List.mem_cons_of_mem _ hy)
      simp only [PyData.depthAll]
      omega
theorem okMx_dict {xs : List P} (h : okMx xs = true) : PyData.hasDictAll xs = false := hasDictAll_of fun x hx => al_dict x ((okMx_al h).1.1 x hx x hx)
theorem mx_fin (I : Inv C pins σ H s) {m : Addr → Prop} {ds : List P} {vs : List V} {us : List Value} {Q : VK} {c : P} {i : Nat} {v : Value} {h' : Heap} {tk : Nat} {bs : List Addr} (hd : PyData.hasDictAll ds = false) (rr : ReqP C.K m H ds vs) (rv : Vals vs us) (hv : us.toArray[i]? = some v) (r : Reads h' v c bs) (hk : ∀ b o, s.heap.get? b = some o → h'.get? b = some o)
    (k : ∀ w, RepP C.K m H c w → Q w H) : EP C pins σ Q v { s with heap := h', toks := tk } := by
  obtain ⟨d, w, h1, h2, h3⟩ := reqs_at I rr rv i v (by simpa using hv)
  obtain ⟨as, h4⟩ := Dp.reads (I.kept (t' := tk) hk) _ _ _ (h2.dp (of_hasDictAll hd d h1)) h3
  obtain ⟨rfl, _⟩ := Reads.unique h4 _ _ r
  exact ⟨w, H, I.kept hk, h3, k w h2⟩
theorem bMax (hc : C.calm = true) (hu : C.A.units + 65 < cLine) : BiR C .max (.builtin "max") := by
  intro pins s σ H xs us Q I rs ⟨O, ρ, st, as, c, S, ra, e, k⟩
  cases as with
  | nil => simp [biP] at e
  | cons a as =>
    cases as with
    | cons b as =>
      cases as with
      | cons d as => cases a <;> simp [biP] at e
      | nil =>
        obtain ⟨x, y, rfl, h1, h2⟩ := RdPs.two (C := C) ra
        cases a with
        | int i =>
          cases b with
          | int j => cases e; exact L2.call_max2 hc pins s σ H _ us Q I rs ⟨i, j, by rw [h1.int, h2.int], k _ _ .rfl S (.int _)⟩
          | _ => simp [biP] at e
        | _ => simp [biP] at e
    | nil =>
      obtain ⟨x, rfl, h⟩ := RdPs.one (C := C) ra
      cases a with
      | list ds =>
        simp only [biP] at e
        split at e
        · rename_i m r q
          cases e
          obtain ⟨a, vs, rfl, l, rr⟩ := h.list
          obtain ⟨e1, e2⟩ := rr.ints q
          refine L2.cr_max hc pins s σ H _ us Q I rs ⟨a, m :: r, rfl, e2 ▸ l.sq, by simp, fun M hM hle => ?_⟩
          obtain ⟨g1, g2⟩ := maxI_mem r m
          have : M = maxI m r := Int.le_antisymm (g2 M hM) (hle _ g1)
          rw [this]
          exact k _ _ .rfl S (.int _)
        · cases ds with
          | nil => simp [mxP] at e
          | cons z r =>
            simp only [mxP] at e
            split at e
            · rename_i hok
              cases e
              obtain ⟨o1, o2⟩ := okMx_al hok
              obtain ⟨a, vs, rfl, l, rr⟩ := h.list
              obtain ⟨its, rv, hl, hz⟩ := I.list l.sq
              obtain ⟨u, rfl, ru⟩ := L2.vals1 rs
              cases ru
              obtain ⟨as, ra⟩ := reqs_read I rr rv (okMx_dict hok)
              exact W.max_list_data (I.ok.hd hc) hl.isList ra o1 (by omega) fun i v h' tk bs hv r hk => mx_fin I (okMx_dict hok) rr rv hv r hk fun w hw => k _ _ .rfl S hw
            · cases e
      | tuple ds =>
        simp only [biP] at e
        cases ds with
        | nil => simp [mxP] at e
        | cons z r =>
          simp only [mxP] at e
          split at e
          · rename_i hok
            cases e
            obtain ⟨o1, o2⟩ := okMx_al hok
            obtain ⟨a, vs, rfl, l, rr⟩ := h.tup
            obtain ⟨its, rv, hl, _⟩ := I.tuple l
            obtain ⟨u, rfl, ru⟩ := L2.vals1 rs
            cases ru
            obtain ⟨as, ra⟩ := reqs_read I rr rv (okMx_dict hok)
            exact W.max_tuple_data (I.ok.hd hc) hl ra o1 (by omega) fun i v h' tk bs hv r hk => mx_fin I (okMx_dict hok) rr rv hv r hk fun w hw => k _ _ .rfl S hw
          · cases e
      | _ => simp [biP] at e
theorem bMin (hc : C.calm = true) (hu : C.A.units + 65 < cLine) : BiR C .min (.builtin "min") := by
  intro pins s σ H xs us Q I rs ⟨O, ρ, st, as, c, S, ra, e, k⟩
  cases as with
  | nil => simp [biP] at e
  | cons a as =>
    cases as with
    | cons b as =>
      cases as with
      | cons d as => cases a <;> simp [biP] at e
      | nil =>
        obtain ⟨x, y, rfl, h1, h2⟩ := RdPs.two (C := C) ra
        cases a with
        | int i =>
          cases b with
          | int j => cases e; exact L2.call_min2 hc pins s σ H _ us Q I rs ⟨i, j, by rw [h1.int, h2.int], k _ _ .rfl S (.int _)⟩
          | _ => simp [biP] at e
        | _ => simp [biP] at e
    | nil =>
      obtain ⟨x, rfl, h⟩ := RdPs.one (C := C) ra
      cases a with
      | list ds =>
        simp only [biP] at e
        split at e
        · rename_i m r q
          cases e
          obtain ⟨a, vs, rfl, l, rr⟩ := h.list
          obtain ⟨e1, e2⟩ := rr.ints q
          refine L2.cr_min hc pins s σ H _ us Q I rs ⟨a, m :: r, rfl, e2 ▸ l.sq, by simp, fun M hM hle => ?_⟩
          obtain ⟨g1, g2⟩ := minI_mem r m
          have : M = minI m r := Int.le_antisymm (hle _ g1) (g2 M hM)
          rw [this]
          exact k _ _ .rfl S (.int _)
        · cases ds with
          | nil => simp [mxP] at e
          | cons z r =>
            simp only [mxP] at e
            split at e
            · rename_i hok
              cases e
              obtain ⟨o1, o2⟩ := okMx_al hok
              obtain ⟨a, vs, rfl, l, rr⟩ := h.list
              obtain ⟨its, rv, hl, hz⟩ := I.list l.sq
              obtain ⟨u, rfl, ru⟩ := L2.vals1 rs
              cases ru
              obtain ⟨as, ra⟩ := reqs_read I rr rv (okMx_dict hok)
              exact W.min_list_data (I.ok.hd hc) hl.isList ra o1 (by omega) fun i v h' tk bs hv r hk => mx_fin I (okMx_dict hok) rr rv hv r hk fun w hw => k _ _ .rfl S hw
            · cases e
      | tuple ds =>
        simp only [biP] at e
        cases ds with
        | nil => simp [mxP] at e
        | cons z r =>
          simp only [mxP] at e
          split at e
          · rename_i hok
            cases e
            obtain ⟨o1, o2⟩ := okMx_al hok
            obtain ⟨a, vs, rfl, l, rr⟩ := h.tup
            obtain ⟨its, rv, hl, _⟩ := I.tuple l
            obtain ⟨u, rfl, ru⟩ := L2.vals1 rs
            cases ru
            obtain ⟨as, ra⟩ := reqs_read I rr rv (okMx_dict hok)
            exact W.min_tuple_data (I.ok.hd hc) hl ra o1 (by omega) fun i v h' tk bs hv r hk => mx_fin I (okMx_dict hok) rr rv hv r hk fun w hw => k _ _ .rfl S hw
          · cases e
      | _ => simp [biP] at e
end
end Mi
end
section
set_option Elab.async false
set_option linter.all false
set_option maxRecDepth 100000
set_option maxHeartbeats 1000000
/-! M5: sum, all, any, tuple, list, sorted, isinstance, subscripts, slices, by data. -/
namespace Mi
open PySem
section sT
open PySem.Calls PyProof.Rows PySem.W
section
variable {prog : Program} {w : World} {A : Around} {E : Value → Shared → Prop} {s : Shared} {β : Type} {vs : List Value} {bs : List β} {enc : β → PyData} {R : Value → β → Prop}
theorem sortedT_data {l : Addr} {Q : Value → Shared → Prop} (hl : s.heap.IsTuple l vs.toArray) (e : EachIs R vs bs) (er : EachIs (fun v b => ∃ as, Reads s.heap v (enc b) as) vs bs) (hal : AllAlike (bs.map enc)) (hk : Sortable (bs.map enc)) (hL : bs.length ≤ sizeLine)
    (hu : ∀ b, b ∈ bs → A.units + 2 + (enc b).depth < cLine)
    (h : ∀ (h1 h' : Heap) (p : Addr) (out : List Value) (c : Nat), (∀ b o, s.heap.get? b = some o → h1.get? b = some o) → (∀ b o, h1.get? b = some o → h'.get? b = some o) → h1.objs.size ≤ p → h'.get? p = some (seqObj "list" out.toArray c) → out.length = bs.length → EachIs R out (bs.mergeSort (dataLe false enc)) → Q (.ref p) { s with heap := h' }) :
    wpAny (model prog w) A (call (.builtin "sorted") [.ref l]) Q E s := by
  obtain ⟨o, ho, hc, n, hd⟩ := hl
  have hlen : vs.length = bs.length := e.length
  refine Calls.call_function_entry kind_sorted plain_sorted entry_sorted (args_sorted1 _) ?_
  unfold Builtin.«sorted»
  refine wpAny_bind (m := checkCount "sorted" 1 1 _) (wpAny_pure ?_)
  refine wpAny_bind (wpAny_collect_seq l (.inr rfl) ho hc hd (fun h' hkp => ?_) (by show vs.length ≤ _; omega))
  refine wpAny_bind (wpAny_newList ?_ (by show vs.length ≤ _; omega))
  have hoL : (h'.push (seqObj "list" vs.toArray 0)).get? h'.objs.size = some (seqObj "list" vs.toArray 0) := Heap.get?_push_size _ rfl
  have hkp1 : ∀ b o, s.heap.get? b = some o → (h'.push (seqObj "list" vs.toArray 0)).get? b = some o := fun b o q => Heap.get?_push_of_some _ (hkp b o q)
  have hsz : ∀ b o, s.heap.get? b = some o → b < h'.objs.size := fun b o q => Heap.lt_size (hkp b o q)
  have er' : EachIs (fun v b => ∃ as, Reads (sortingHeap (h'.push (seqObj "list" vs.toArray 0)) h'.objs.size vs) v (enc b) as) vs bs := er.mono fun _ _ ⟨as, r⟩ => ⟨as, PyProof.Rows.Reads.keeps (fun b o q => sortingHeap_old (Nat.ne_of_lt (hsz b o q)) (hkp1 b o q)) r⟩
  have S : SortsAt prog w A.in1.in1 { s with heap := sortingHeap (h'.push (seqObj "list" vs.toArray 0)) h'.objs.size vs } (dataKind (sortingHeap (h'.push (seqObj "list" vs.toArray 0)) h'.objs.size vs) (bs.map enc)) vs :=
    SortsAt.data (s := { s with heap := sortingHeap (h'.push (seqObj "list" vs.toArray 0)) h'.objs.size vs }) (each_map (R := fun v d => ∃ as, Reads (sortingHeap (h'.push (seqObj "list" vs.toArray 0)) h'.objs.size vs) v d as) enc er') hal hk (bound_map hu)
  refine wpAny_bind (wpAny_holding (wpAny_call_entry slot_list_sort ⟨_, hoL, rfl⟩ entry_list_sort (list_sort_vals (s := { s with heap := h'.push (seqObj "list" vs.toArray 0) }) hoL S (by omega) ⟨_, rfl, ?_⟩) (args_list_sort _)))
  obtain ⟨c, hc⟩ := sortedHeap_at (vs := vs) (out := (sortVals (dataKind (sortingHeap (h'.push (seqObj "list" vs.toArray 0)) h'.objs.size vs) (bs.map enc)) false vs vs).toArray) hoL
  refine wpAny_pure ⟨_, rfl, h h' _ h'.objs.size _ c hkp (fun b o q => ?_) (Nat.le_refl _) hc (by rw [sortVals_length false rfl]; exact hlen) (sortVals_data false e er' hal)⟩
  rw [sortedHeap_old (Nat.ne_of_lt (Heap.lt_size q)) (by rw [size_push']; exact Nat.lt_succ_of_lt (Heap.lt_size q))]
  exact Heap.get?_push_of_some _ q
end
end sT
open L2 (V HO Hp upd upd_same upd_ne SqL SqT Rd Cx Inv PE PT PA PS PSs PG PGs PI TE TT TA TS TG VK Ends RelV Vals ne_of_none OpR R2 EP CallR UnR IxR SlR TruR Dp TyX TyOf)
section
variable {C : Cx} {pins : List (Addr × Obj)} {s : Shared} {σ : Sg} {H : Hp}
theorem bAll (hc : C.calm = true) : BiR C .all (.builtin "all") := by
  intro pins s σ H xs us Q I rs ⟨O, ρ, st, as, c, S, ra, e, k⟩
  cases as with
  | nil => simp [biP] at e
  | cons a as =>
    cases as with
    | cons b as => cases a <;> simp [biP] at e
    | nil =>
      obtain ⟨x, rfl, h⟩ := RdPs.one (C := C) ra
      cases a with
      | list ds =>
        simp only [biP, Option.map_eq_some_iff] at e
        obtain ⟨bs, q, rfl⟩ := e
        obtain ⟨a, vs, rfl, l, rr⟩ := h.list
        obtain ⟨e1, e2⟩ := rr.bools q
        exact L2.cr_all hc pins s σ H _ us Q I rs ⟨a, bs, rfl, e2 ▸ l.sq, k _ _ .rfl S (.bl _)⟩
      | _ => simp [biP] at e
theorem bAny (hc : C.calm = true) : BiR C .any (.builtin "any") := by
  intro pins s σ H xs us Q I rs ⟨O, ρ, st, as, c, S, ra, e, k⟩
  cases as with
  | nil => simp [biP] at e
  | cons a as =>
    cases as with
    | cons b as => cases a <;> simp [biP] at e
    | nil =>
      obtain ⟨x, rfl, h⟩ := RdPs.one (C := C) ra
      cases a with
      | list ds =>
        simp only [biP, Option.map_eq_some_iff] at e
        obtain ⟨bs, q, rfl⟩ := e
        obtain ⟨a, vs, rfl, l, rr⟩ := h.list
        obtain ⟨e1, e2⟩ := rr.bools q
        exact L2.cr_any hc pins s σ H _ us Q I rs ⟨a, bs, rfl, e2 ▸ l.sq, k _ _ .rfl S (.bl _)⟩
      | _ => simp [biP] at e
open PyProof.Rows in
theorem sumT_raw {prog : Program} {w : World} {A : Around} {E : Value → Shared → Prop} {s : Shared} {l : Addr} {its : List Value} {ns : List Int} {Q : Value → Shared → Prop} (hh : A.handled = none) (hl : s.heap.IsTuple l its.toArray) (hi : IntsAre its ns)
    (h : ∀ h' tk t', (∀ b o, s.heap.get? b = some o → h'.get? b = some o) → Q (.int ns.sum t') { s with heap := h', toks := tk }) : wpAny (model prog w) A (call (.builtin "sum") [.ref l]) Q E s := by
  obtain ⟨xs, hx⟩ := hi.allInts.items
  have hn : numsOf its.toArray.toList = ns := by rw [show its.toArray.toList = its from rfl, hi.numsOf]
  rw [hx] at hl hn
  rw [nums_intItems] at hn
  refine PySem.W.ktm_sumG hh hl fun h' tk t' hk => ?_
  have := h h' tk t' hk
  rw [preSum_eq, List.take_of_length_le (by simp), hn]
  exact this
theorem bSum (hc : C.calm = true) : BiR C .sum (.builtin "sum") := by
  intro pins s σ H xs us Q I rs ⟨O, ρ, st, as, c, S, ra, e, k⟩
  cases as with
  | nil => simp [biP] at e
  | cons a as =>
    cases as with
    | cons b as => cases a <;> simp [biP] at e
    | nil =>
      obtain ⟨x, rfl, h⟩ := RdPs.one (C := C) ra
      cases a with
      | list ds =>
        simp only [biP, Option.map_eq_some_iff] at e
        obtain ⟨ns, q, rfl⟩ := e
        obtain ⟨a, vs, rfl, l, rr⟩ := h.list
        obtain ⟨e1, e2⟩ := rr.ints q
        exact L2.cr_sum hc pins s σ H _ us Q I rs ⟨a, ns, rfl, e2 ▸ l.sq, k _ _ .rfl S (.int _)⟩
      | tuple ds =>
        simp only [biP, Option.map_eq_some_iff] at e
        obtain ⟨ns, q, rfl⟩ := e
        obtain ⟨a, vs, rfl, l, rr⟩ := h.tup
        obtain ⟨e1, e2⟩ := rr.ints q
        subst e2
        obtain ⟨its, rv, hl, _⟩ := I.tuple l
        rw [L2.Vals.ref1 rs]
        exact sumT_raw (I.ok.hd hc) hl rv.ints fun h' tk t' hk => ⟨.int _, H, I.kept hk, ⟨_, rfl⟩, k _ _ .rfl S (.int _)⟩
      | _ => simp [biP] at e
theorem bTuple : BiR C .tuple (.type "tuple") := by
  intro pins s σ H xs us Q I rs ⟨O, ρ, st, as, c, S, ra, e, k⟩
  cases as with
  | nil => simp [biP] at e
  | cons a as =>
    cases as with
    | cons b as => cases a <;> simp [biP] at e
    | nil =>
      obtain ⟨x, rfl, h⟩ := RdPs.one (C := C) ra
      cases a with
      | list ds =>
        cases e
        obtain ⟨a, vs, rfl, l, rr⟩ := h.list
        exact L2.call_tuple_of pins s σ H _ us Q I rs ⟨a, vs, rfl, .inl ⟨l.sq, fun p hp => k _ _ (Stp.new S hp) (S.new hp) (rep_newT S hp rr)⟩⟩
      | tuple ds =>
        cases e
        obtain ⟨a, vs, rfl, l, rr⟩ := h.tup
        exact L2.call_tuple_of pins s σ H _ us Q I rs ⟨a, vs, rfl, .inr ⟨l, k _ _ .rfl S (.tup l rr)⟩⟩
      | _ => simp [biP] at e
theorem bList : BiR C .list (.type "list") := by
  intro pins s σ H xs us Q I rs ⟨O, ρ, st, as, c, S, ra, e, k⟩
  cases as with
  | nil => simp [biP] at e
  | cons a as =>
    cases as with
    | cons b as => cases a <;> simp [biP] at e
    | nil =>
      obtain ⟨x, rfl, h⟩ := RdPs.one (C := C) ra
      cases a with
      | list ds =>
        cases e
        obtain ⟨a, vs, rfl, l, rr⟩ := h.list
        exact L2.call_list_of pins s σ H _ us Q I rs ⟨a, vs, rfl, .inl l.sq, fun p hp => k _ _ (Stp.new S hp) (S.new hp) (rep_newL S hp rr)⟩
      | tuple ds =>
        cases e
        obtain ⟨a, vs, rfl, l, rr⟩ := h.tup
        exact L2.call_list_of pins s σ H _ us Q I rs ⟨a, vs, rfl, .inr l, fun p hp => k _ _ (Stp.new S hp) (S.new hp) (rep_newL S hp rr)⟩
      | _ => simp [biP] at e
/-! sorted -/
theorem each_of {α β γ : Type} {R : α → β → Prop} {T : α → γ → Prop} (f : γ → β) (h : ∀ a c, T a c → R a (f c)) : ∀ {as : List α} {cs : List γ}, W.EachIs T as cs → W.EachIs R as (cs.map f)
  | _, _, .nil => .nil
  | _, _, .cons q r => .cons (h _ _ q) (each_of f h r)
def prs : List P → List V → List (P × V)
  | d :: ds, v :: vs => (d, v) :: prs ds vs
  | _, _ => []
section
variable {K : Fg} {m : Addr → Prop}
theorem prs_fst : ∀ {ds : List P} {vs : List V}, ReqP K m H ds vs → (prs ds vs).map (·.1) = ds
  | _, _, .nil => rfl
  | _, _, .cons _ r => by simp [prs, prs_fst r]
theorem prs_snd : ∀ {ds : List P} {vs : List V}, ReqP K m H ds vs → (prs ds vs).map (·.2) = vs
  | _, _, .nil => rfl
  | _, _, .cons _ r => by simp [prs, prs_snd r]
theorem prs_mem : ∀ {ds : List P} {vs : List V}, ReqP K m H ds vs → ∀ p ∈ prs ds vs, RepP K m H p.1 p.2 ∧ p.1 ∈ ds
  | _, _, .nil => fun p h => by simp [prs] at h
  | _, _, .cons h r => fun p hp => by
    simp only [prs, List.mem_cons] at hp
    rcases hp with rfl | hp
    · exact ⟨h, List.mem_cons_self⟩
    · have := prs_mem r p hp
      exact ⟨this.1, List.mem_cons_of_mem _ this.2⟩
theorem prs_req : ∀ (l : List (P × V)), (∀ p ∈ l, RepP K m H p.1 p.2) → ReqP K m H (l.map (·.1)) (l.map (·.2))
  | [], _ => .nil
  | p :: l, h => .cons (h p List.mem_cons_self) (prs_req l fun q hq => h q (List.mem_cons_of_mem _ hq))
theorem prs_vals : ∀ {ds : List P} {vs : List V} {us : List Value}, ReqP K m H ds vs → Vals vs us → W.EachIs (fun (v : Value) (p : P × V) => RelV p.2 v) us (prs ds vs)
  | _, _, _, .nil, .nil => .nil
  | _, _, _, .cons _ r, .cons q t => .cons q (prs_vals r t)
end
theorem prs_reads (I : Inv C pins σ H s) {m : Addr → Prop} : ∀ {ds : List P} {vs : List V} {us : List Value}, ReqP C.K m H ds vs → Vals vs us → (∀ d ∈ ds, d.hasDict = false) → W.EachIs (fun (v : Value) (p : P × V) => ∃ as, Reads s.heap v p.1 as) us (prs ds vs)
  | _, _, _, .nil, .nil, _ => .nil
  | _, _, _, .cons h r, .cons q t, e => .cons (Dp.reads I _ _ _ (h.dp (e _ List.mem_cons_self)) q) (prs_reads I r t fun d hd => e d (List.mem_cons_of_mem _ hd))
theorem each_vals : ∀ {us : List Value} {ps : List (P × V)}, W.EachIs (fun (v : Value) (p : P × V) => RelV p.2 v) us ps → Vals (ps.map (·.2)) us
  | _, _, .nil => .nil
  | _, _, .cons q r => .cons q (each_vals r)
theorem okSort_al {ds : List P} (h : okSort ds = true) : W.AllAlike ds ∧ W.Sortable ds ∧ ∀ d ∈ ds, d.depth ≤ 50 := by
  unfold okSort at h
  rw [Bool.and_eq_true, Bool.and_eq_true] at h
  obtain ⟨⟨h1, h2⟩, h3⟩ := h
  refine ⟨fun d hd d' hd' => List.all_eq_true.mp (List.all_eq_true.mp h1 d hd) d' hd', ?_, fun d hd => of_decide_eq_true (List.all_eq_true.mp h3 d hd)⟩
  rw [Bool.or_eq_true] at h2
  rcases h2 with h2 | h2
  · refine .inl fun d hd => ?_
    have := List.all_eq_true.mp h2 d hd
    unfold isTup1 at this
    split at this
    · exact ⟨_, _, rfl⟩
    · cases this
  · refine .inr fun d hd => ?_
    have := List.all_eq_true.mp h2 d hd
    unfold noTup at this
    split at this
    · cases this
    · cases this
    · rename_i q1 q2
      exact ⟨fun z => q2 z, fun xs z => q1 xs z⟩
theorem bSorted (hu : C.A.units + 65 < cLine) : BiR C .sorted (.builtin "sorted") := by
  intro pins s σ H xs us Q I rs ⟨O, ρ, st, as, c, S, ra, e, k⟩
  cases as with
  | nil => simp [biP] at e
  | cons a as =>
    cases as with
    | cons b as => cases a <;> simp [biP] at e
    | nil =>
      obtain ⟨x, rfl, h⟩ := RdPs.one (C := C) ra
      cases a with
      | list ds =>
        simp only [biP] at e
        split at e
        · rename_i hok
          cases e
          obtain ⟨o1, o2, o3⟩ := okSort_al hok
          obtain ⟨a, vs, rfl, l, rr⟩ := h.list
          obtain ⟨its, rv, hl, hz⟩ := I.list l.sq
          obtain ⟨u, rfl, ru⟩ := L2.vals1 rs
          cases ru
          have ef := prs_fst rr
          have lp : (prs ds vs).length = ds.length := by have := congrArg List.length ef; simpa using this
          refine PySem.W.sorted_data (enc := Prod.fst) hl.isList (prs_vals rr rv) (prs_reads I rr rv fun d hd => al_dict d (o1 d hd d hd)) (by rw [ef]; exact o1) (by rw [ef]; exact o2) (by rw [lp, rr.len]; exact hz) (fun b hb => ?_) fun out ho eo => ?_
          · have := o3 b.1 (prs_mem rr b hb).2
            omega
          · obtain ⟨ep, he'⟩ := PyProof.Rows.sortedAll_at s.heap its out.toArray
            have ev := each_vals eo
            have em : ((prs ds vs).mergeSort (W.dataLe false Prod.fst)).map (·.1) = sortP ds := by
              unfold sortP
              have := List.map_mergeSort (r := W.dataLe false (Prod.fst : P × V → P)) (s := W.dataLe false (id : P → P)) (f := Prod.fst) (l := prs ds vs) fun a _ b _ => rfl
              rw [show (prs ds vs).map Prod.fst = ds from ef] at this
              exact this
            have hlen : (((prs ds vs).mergeSort (W.dataLe false Prod.fst)).map (·.2)).length ≤ sizeLine := by
              rw [List.length_map, List.length_mergeSort, lp, rr.len]
              exact hz
            have hp : H (s.heap.objs.size + 1) = none := I.hok.fresh (Nat.le_succ _)
            refine ⟨.ref _, upd H (s.heap.objs.size + 1) (.lst (((prs ds vs).mergeSort (W.dataLe false Prod.fst)).map (·.2))), I.laid (t' := s.toks) (fun _ _ => PyProof.Rows.sortedAll_old) (Nat.le_succ _) ⟨hlen, out, ep, ev, he'⟩, rfl, ?_⟩
            refine k _ _ (Stp.new S hp) (S.new hp) (rep_newL S hp ?_)
            rw [← em]
            exact prs_req _ fun p hm => (prs_mem rr p (List.mem_mergeSort.mp hm)).1
        · cases e
      | tuple ds =>
        simp only [biP] at e
        split at e
        · rename_i hok
          cases e
          obtain ⟨o1, o2, o3⟩ := okSort_al hok
          obtain ⟨a, vs, rfl, l, rr⟩ := h.tup
          obtain ⟨its, rv, hl, hz⟩ := I.tuple l
          obtain ⟨u, rfl, ru⟩ := L2.vals1 rs
          cases ru
          have ef := prs_fst rr
          have lp : (prs ds vs).length = ds.length := by have := congrArg List.length ef; simpa using this
          refine sortedT_data (enc := Prod.fst) hl (prs_vals rr rv) (prs_reads I rr rv fun d hd => al_dict d (o1 d hd d hd)) (by rw [ef]; exact o1) (by rw [ef]; exact o2) (by rw [lp, rr.len]; exact hz) (fun b hb => ?_) fun h1 h2 p out c k1 k2 hp hg ho eo => ?_
          · have := o3 b.1 (prs_mem rr b hb).2
            omega
          · have ev := each_vals eo
            have em : ((prs ds vs).mergeSort (W.dataLe false Prod.fst)).map (·.1) = sortP ds := by
              unfold sortP
              have := List.map_mergeSort (r := W.dataLe false (Prod.fst : P × V → P)) (s := W.dataLe false (id : P → P)) (f := Prod.fst) (l := prs ds vs) fun a _ b _ => rfl
              rw [show (prs ds vs).map Prod.fst = ds from ef] at this
              exact this
            have hlen : (((prs ds vs).mergeSort (W.dataLe false Prod.fst)).map (·.2)).length ≤ sizeLine := by
              rw [List.length_map, List.length_mergeSort, lp, rr.len]
              exact hz
            have I1 : Inv C pins σ H { s with heap := h1, toks := s.toks } := I.kept k1
            have hn : H p = none := I1.hok.fresh hp
            refine ⟨.ref _, upd H p (.lst (((prs ds vs).mergeSort (W.dataLe false Prod.fst)).map (·.2))), I1.laid (t' := s.toks) k2 hp ⟨hlen, out, c, ev, hg⟩, rfl, ?_⟩
            refine k _ _ (Stp.new S hn) (S.new hn) (rep_newL S hn ?_)
            rw [← em]
            exact prs_req _ fun p hm => (prs_mem rr p (List.mem_mergeSort.mp hm)).1
        · cases e
      | _ => simp [biP] at e
end
end Mi
end
section
set_option Elab.async false
set_option linter.all false
set_option maxRecDepth 100000
set_option maxHeartbeats 1000000
/-! M6: isinstance, subscripts, slices, by data. -/
namespace Mi
open PySem
open L2 (V HO Hp upd upd_same upd_ne SqL SqT Rd Cx Inv PE PT PA PS PSs PG PGs PI TE TT TA TS TG VK Ends RelV Vals ne_of_none OpR R2 EP CallR UnR IxR SlR TruR Dp TyX TyOf)
section
variable {C : Cx} {pins : List (Addr × Obj)} {s : Shared} {σ : Sg} {H : Hp}
def tgN : Tg → String
  | .n => "NoneType"
  | .b => "bool"
  | .i => "int"
  | .s => "str"
  | .l => "list"
  | .t => "tuple"
  | .d => "dict"
  | .x => ""
def tyOf (x : P) : String := tgN (tgOf x)
theorem not_x {ty : Str} {x : P} {b : Bool} (e : tyP ty x = some b) : tgOf x ≠ .x := fun z => by
  unfold tyP at e
  rw [z] at e
  cases e
theorem rd_ty {K : Fg} {m : Addr → Prop} {x : P} {v : V} (h : RdP K m H x v) (hx : tgOf x ≠ .x) : TyX K H v (.type (tyOf x)) := by
  cases x with
  | none => cases h.non; exact .base .non
  | bool b => cases h.bl; exact .base (.bl _)
  | int i => cases h.int; exact .base (.int _)
  | str y => cases h.str; exact .base (.str _)
  | list ds =>
    obtain ⟨a, vs, rfl, l, r⟩ := h.list
    rcases l with (l | ⟨o, l⟩) | ⟨its, n, l, _⟩
    · exact .base (.lst l)
    · exact .base (.frz l)
    · exact .kList l rfl
  | tuple ds =>
    obtain ⟨a, vs, rfl, l, r⟩ := h.tup
    rcases l with (l | ⟨o, l⟩) | ⟨o, its, n, l, l2, _⟩
    · exact .base (.tup l)
    · exact .fTuple l
    · exact .kTuple l l2
  | dict kvs =>
    cases h with
    | of h =>
      generalize hd : PyData.dict kvs = d at h hx ⊢
      cases h with
      | dct h r =>
        rename_i kv ks
        have e : tyOf (.dict kv) = "dict" := by
          cases r with
          | nil => rfl
          | @cons x y r k v s e _ _ => subst e; cases k <;> rfl
        rw [e]
        rcases h.1 with l | ⟨o, l⟩
        · exact .base (.dK l)
        · exact .fDict l
      | exc => exact absurd rfl hx
      | _ => cases hd
def tyN (ty : Str) : String := if ty = "int" then "int" else if ty = "bool" then "bool" else if ty = "str" then "str" else if ty = "tuple" then "tuple" else if ty = "list" then "list" else "dict"
def okTy (ty : Str) : Bool := ty == "int" || ty == "bool" || ty == "str" || ty == "tuple" || ty == "list" || ty == "dict"
theorem ty_kit {ty : Str} (hk : okTy ty = true) {x : P} {b : Bool} (e : tyP ty x = some b) : L2.kitB (tyOf x) (tyN ty) = some b := by
  unfold okTy at hk
  unfold tyP at e
  unfold tyOf
  generalize tgOf x = g at e ⊢
  simp only [Bool.or_eq_true, beq_iff_eq] at hk
  rcases hk with ((((rfl | rfl) | rfl) | rfl) | rfl) | rfl <;> cases g <;> cases b <;> (first
    | (exfalso; revert e; exact (by decide))
    | decide +kernel)
theorem ty_boot {ty : Str} (hk : okTy ty = true) : bootBuiltins ty = some (.type (tyN ty)) := by
  unfold okTy at hk
  simp only [Bool.or_eq_true, beq_iff_eq] at hk
  rcases hk with ((((rfl | rfl) | rfl) | rfl) | rfl) | rfl <;> decide +kernel
/-- isinstance(x, a class of the built-in ones) -/
theorem bIsi {ty : Str} (hk : okTy ty = true) {us : List Value} {Q : VK} (I : Inv C pins σ H s) {m : Addr → Prop} {x : P} {v : V} {b : Bool} (h : RdP C.K m H x v) (e : tyP ty x = some b) (r : Vals [v, .ty (tyN ty)] us) (q : Q (.bl b) H) :
    wpAny (model C.prog C.w) C.A (call (.builtin "isinstance") us) (EP C pins σ Q) C.xe s :=
  L2.call_isi pins s σ H _ us Q I r ⟨v, .ty (tyN ty), .type (tyOf x), .type (tyN ty), b, rfl, .ty _, rd_ty h (not_x e), L2.kit_ty (ty_kit hk e), q⟩
/-! ### subscripts -/
/-- values in (a thing subscripted, its index), a value out; the store stays -/
def rX (K : Fg) (f : Vl → Vl → Sr → Option Vl) : R2 := fun x y H Q => ∃ (O : Addr → Prop) (ρ : Nat → Addr) (st : Sr) (a b c : Vl), RelS K O ρ H st ∧ Rep K O ρ st H a x ∧ Rep K O ρ st H b y ∧ f a b st = some c ∧
  ∀ v, Rep K O ρ st H c v → Q v H
def ixO (o i : Vl) (s : Sr) : Option Vl := match ixV o i s with
  | .ok v _ => some v
  | _ => none
theorem ixO_ok {o i v : Vl} {s s' : Sr} (h : ixV o i s = .ok v s') : ixO o i s = some v ∧ s' = s := by
  refine ⟨by unfold ixO; rw [h], ?_⟩
  unfold ixV at h
  split at h
  · split at h
    · unfold R.of at h
      split at h
      · cases h; rfl
      · cases h
    · split at h
      · unfold R.of at h
        split at h
        · cases h; rfl
        · cases h
      · unfold R.of at h
        split at h
        · cases h; rfl
        · cases h
      · cases h
  · cases h
theorem ixV_ex {o i : Vl} {s s' : Sr} {c : Str} {x : P} : ixV o i s ≠ .ex c x s' := by
  intro h
  unfold ixV at h
  split at h
  · split at h
    · unfold R.of at h
      split at h <;> cases h
    · split at h
      · unfold R.of at h
        split at h <;> cases h
      · unfold R.of at h
        split at h <;> cases h
      · cases h
  · cases h
theorem atI_some {α : Type} {xs : List α} {i : Int} {x : α} (h : L2.atI xs i = some x) : ∃ j : Nat, xs[j]? = some x ∧ ∀ {β : Type} (ys : List β), ys.length = xs.length → L2.atI ys i = ys[j]? := by
  unfold L2.atI at h ⊢
  cases q : L2.ixN xs.length i with
  | none => rw [q] at h; cases h
  | some j =>
    rw [q] at h
    exact ⟨j, h, fun ys hy => by rw [hy, q]; rfl⟩
theorem opIx : IxR C (rX C.K ixO) := by
  intro value slice pins s σ H x y v u Q I rx ry ⟨O, ρ, st, o, i, w, S, ra, rb, e, k⟩ hs
  unfold ixO at e
  split at e
  · rename_i w' s' q
    cases e
    unfold ixV at q
    split at q
    · rename_i j hj
      have hi := (dd_rd S rb hj).int
      subst hi
      split at q
      · rename_i x'
        cases x' with
        | list ds =>
          simp only [ixP] at q
          cases hx : L2.atI ds j with
          | none => rw [hx] at q; cases q
          | some d =>
            rw [hx] at q
            cases q
            obtain ⟨a, vs, rfl, l, r⟩ := RepP.lst_inv ra
            obtain ⟨n, h1, h2⟩ := atI_some hx
            obtain ⟨z, h3, h4⟩ := r.get h1
            exact L2.ix_seq value slice pins s σ H _ _ v u Q I rx ry (.inl ⟨a, vs, j, z, rfl, rfl, l.sq, by rw [h2 vs r.len.symm, h3], k z h4⟩) hs
        | tuple ds =>
          simp only [ixP] at q
          cases hx : L2.atI ds j with
          | none => rw [hx] at q; cases q
          | some d =>
            rw [hx] at q
            cases q
            obtain ⟨a, vs, rfl, l, r⟩ := RepP.tup_inv ra
            obtain ⟨n, h1, h2⟩ := atI_some hx
            obtain ⟨z, h3, h4⟩ := r.get h1
            exact L2.ix_seq value slice pins s σ H _ _ v u Q I rx ry (.inr (.inl ⟨a, vs, j, z, rfl, rfl, l, by rw [h2 vs r.len.symm, h3], k z h4⟩)) hs
        | str z =>
          simp only [ixP] at q
          split at q
          · rename_i hz
            cases hx : L2.atI z.cps.toList j with
            | none => rw [hx] at q; cases q
            | some d =>
              rw [hx] at q
              cases q
              have hx' := RepP.str_inv ra
              subst hx'
              exact L2.ix_seq value slice pins s σ H _ _ v u Q I rx ry (.inr (.inr ⟨z, j, d, rfl, rfl, lim_line hz, hx, k _ (RepP.str _)⟩)) hs
          · cases q
        | _ => simp [ixP, R.of] at q
      · rename_i n
        obtain ⟨hn, rfl⟩ := ra
        split at q
        · rename_i z xs hst
          cases hx : L2.atI xs j with
          | none => rw [hx] at q; cases q
          | some d =>
            rw [hx] at q
            cases q
            obtain ⟨h, e1, vs, rfl, r⟩ := S.ob n _ hst
            obtain ⟨n', h1, h2⟩ := atI_some hx
            obtain ⟨z, h3, h4⟩ := r.get h1
            exact L2.ix_seq value slice pins s σ H _ _ v u Q I rx ry (.inl ⟨_, vs, j, z, rfl, rfl, .of e1, by rw [h2 vs r.len.symm, h3], k z h4⟩) hs
        · rename_i xs hst
          cases hx : L2.atI xs j with
          | none => rw [hx] at q; cases q
          | some d =>
            rw [hx] at q
            cases q
            obtain ⟨h, e1, rfl, r⟩ := S.ob n _ hst
            obtain ⟨n', h1, h2⟩ := atI_some hx
            refine L2.ix_seq value slice pins s σ H _ _ v u Q I rx ry (.inl ⟨_, _, j, .ref (ρ d), rfl, rfl, .of e1, by rw [h2 (xs.map fun n => V.ref (ρ n)) (by simp)]; simp [h1], k _ ⟨?_, rfl⟩⟩) hs
            exact r d (List.mem_of_getElem? h1)
        · cases q
    · cases q
  · cases e
/-! ### slices -/
def rSl (K : Fg) : V → Option Int → Option Int → Hp → VK → Prop := fun x lo hi H Q => ∃ (O : Addr → Prop) (ρ : Nat → Addr) (st : Sr) (a c : P), RelS K O ρ H st ∧ RdP K (Mt O ρ st) H a x ∧ slP a lo hi = some c ∧
  ∀ H' v, Stp ρ st H ρ st H' → RelS K O ρ H' st → RepP K (Mt O ρ st) H' c v → Q v H'
theorem ReqP.cutR {K : Fg} {m : Addr → Prop} {ds : List P} {vs : List V} (r : ReqP K m H ds vs) (lo hi : Option Int) : ReqP K m H (cut ds lo hi) (L2.cutV vs lo hi) := by
  unfold cut L2.cutV
  rw [r.len]
  exact (r.drop _).take _
theorem opSl : SlR C (rSl C.K) := by
  intro pins s σ H x v vl vu lo hi sl Q I rx hs pl pu ⟨O, ρ, st, a, c, S, ra, e, k⟩
  cases a with
  | list ds =>
    cases e
    obtain ⟨a, vs, rfl, l, r⟩ := ra.list
    exact L2.sl_list pins s σ H _ v vl vu lo hi sl Q I rx hs pl pu ⟨a, vs, rfl, l.sq, fun p hp => k _ _ (Stp.new S hp) (S.new hp) (rep_newL S hp (r.cutR lo hi))⟩
  | tuple ds =>
    cases e
    obtain ⟨a, vs, rfl, l, r⟩ := ra.tup
    refine L2.sl_tupA pins s σ H _ v vl vu lo hi sl Q I rx hs pl pu ⟨a, vs, rfl, l, fun hw => ?_, fun _ p hp => k _ _ (Stp.new S hp) (S.new hp) (rep_newT S hp (r.cutR lo hi))⟩
    have e : cut ds lo hi = ds := by
      unfold cut
      rw [r.len, hw.1, hw.2, List.drop_zero, Nat.sub_zero]
      exact List.take_of_length_le (by rw [r.len]; exact Nat.le_refl _)
    rw [e] at k
    exact k _ _ .rfl S (.tup l r)
  | _ => cases e
end
end Mi
end
section
set_option Elab.async false
set_option linter.all false
set_option maxRecDepth 100000
set_option maxHeartbeats 1000000
/-! M7: ends, readings. -/
namespace Mi
open PySem
open L2 (V HO Hp upd upd_same upd_ne SqL SqT Rd Cx Inv PE PT PA PS PSs PG PGs PI TE TT TA TS TG TGs TI It VK XK Ends RelV Vals ne_of_none OpR R2 EP CallR UnR IxR SlR TruR)
/-- an exception's own dict -/
def XAt (K : Fg) (m : Addr → Prop) (H : Hp) (c : Str) (x : P) (d : Addr) : Prop := (∃ C, ErrC K c C) ∧ ∃ v fs, H d = some (.xd fs) ∧ fs.lookup ("value" : Str) = some v ∧ RepP K m H x v
/-- the wish of an exception: its class, its dict, the heap -/
abbrev Wx := Str → Addr → Hp → Prop
section
variable (K : Fg) (W : Str → Option Addr → Hp → Prop) (O : Addr → Prop)
/-- where a result leads -/
def End {α β : Type} (Rp : (Nat → Addr) → Sr → Hp → α → β → Prop) (ρ : Nat → Addr) (st : Sr) (H : Hp) (r : R α) (Q : β → Hp → Prop) : Prop := match r with
  | .ok a st' => ∀ ρ' H' b, Stp ρ st H ρ' st' H' → RelS K O ρ' H' st' → Rp ρ' st' H' a b → Q b H'
  | .ex c x st' => ∀ ρ' H' d, Stp ρ st H ρ' st' H' → RelS K O ρ' H' st' → XAt K (Mt O ρ' st') H' c x d → W c (some d) H'
  | .no => False
def RpV : (Nat → Addr) → Sr → Hp → Vl → V → Prop := fun ρ st H a b => Rep K O ρ st H a b
def RpA : (Nat → Addr) → Sr → Hp → List Vl → List V → Prop := fun ρ st H a b => Reps K O ρ st H a b
def RpB : (Nat → Addr) → Sr → Hp → Bool → Bool → Prop := fun _ _ _ a b => a = b
def RpO : (Nat → Addr) → Sr → Hp → Option Int → Option Int → Prop := fun _ _ _ a b => a = b
def EndS (ρ : Nat → Addr) (st : Sr) (H : Hp) (r : X) (D : Ends) : Prop := match r with
  | .nx e' st' => ∀ ρ' σ' H', Stp ρ st H ρ' st' H' → Rel K O ρ' σ' H' e' st' → D.nx σ' H'
  | .bk e' st' => ∀ ρ' σ' H', Stp ρ st H ρ' st' H' → Rel K O ρ' σ' H' e' st' → D.bk σ' H'
  | .ct e' st' => ∀ ρ' σ' H', Stp ρ st H ρ' st' H' → Rel K O ρ' σ' H' e' st' → D.ct σ' H'
  | .rt a st' => ∀ ρ' H' b, Stp ρ st H ρ' st' H' → RelS K O ρ' H' st' → Rep K O ρ' st' H' a b → D.rt b H'
  | .ex c x st' => ∀ ρ' H' d, Stp ρ st H ρ' st' H' → RelS K O ρ' H' st' → XAt K (Mt O ρ' st') H' c x d → W c (some d) H'
  | .no => False
end
section
variable {K : Fg} {W : Str → Option Addr → Hp → Prop} {O : Addr → Prop} {α β γ δ : Type} {Rp : (Nat → Addr) → Sr → Hp → α → β → Prop} {Rq : (Nat → Addr) → Sr → Hp → γ → δ → Prop}
  {ρ ρ1 : Nat → Addr} {σ : Sg} {st st1 : Sr} {H H1 : Hp} {e : En}
theorem End.later {r : R α} {Q : β → Hp → Prop} (h : End K W O Rp ρ st H r Q) (S : RelS K O ρ H st) (S1 : RelS K O ρ1 H1 st1) (s : Stp ρ st H ρ1 st1 H1) : End K W O Rp ρ1 st1 H1 r Q := by
  cases r with
  | ok a st' => exact fun ρ' H' b s' S' r => h ρ' H' b (s.trans S S1 s') S' r
  | ex c x st' => exact fun ρ' H' d s' S' r => h ρ' H' d (s.trans S S1 s') S' r
  | no => exact h
theorem EndS.later {r : X} {D : Ends} (h : EndS K W O ρ st H r D) (S : RelS K O ρ H st) (S1 : RelS K O ρ1 H1 st1) (s : Stp ρ st H ρ1 st1 H1) : EndS K W O ρ1 st1 H1 r D := by
  cases r with
  | nx e' st' => exact fun ρ' σ' H' s' S' => h ρ' σ' H' (s.trans S S1 s') S'
  | bk e' st' => exact fun ρ' σ' H' s' S' => h ρ' σ' H' (s.trans S S1 s') S'
  | ct e' st' => exact fun ρ' σ' H' s' S' => h ρ' σ' H' (s.trans S S1 s') S'
  | rt a st' => exact fun ρ' H' b s' S' r => h ρ' H' b (s.trans S S1 s') S' r
  | ex c x st' => exact fun ρ' H' d s' S' r => h ρ' H' d (s.trans S S1 s') S' r
  | no => exact h
theorem End.mono {r : R α} {Q Q' : β → Hp → Prop} (h : End K W O Rp ρ st H r Q) (q : ∀ b H, Q b H → Q' b H) : End K W O Rp ρ st H r Q' := by
  cases r with
  | ok a st' => exact fun ρ' H' b s' S' r => q _ _ (h ρ' H' b s' S' r)
  | ex c x st' => exact h
  | no => exact h
/-- the end of a first part -/
theorem End.bd {m : R α} {g : α → Sr → R γ} {Q : δ → Hp → Prop} {Q' : β → Hp → Prop} (S : RelS K O ρ H st) (h : End K W O Rq ρ st H (m.bd g) Q)
    (k : ∀ a st' ρ' H' b, m = .ok a st' → Stp ρ st H ρ' st' H' → RelS K O ρ' H' st' → Rp ρ' st' H' a b → End K W O Rq ρ' st' H' (g a st') Q → Q' b H') : End K W O Rp ρ st H m Q' := by
  cases m with
  | ok a st' => exact fun ρ' H' b s' S' r => k a st' ρ' H' b rfl s' S' r (End.later (show End K W O Rq ρ st H (g a st') Q from h) S S' s')
  | ex c x st' => exact h
  | no => exact h
theorem End.bx {m : R α} {g : α → Sr → X} {D : Ends} {Q' : β → Hp → Prop} (S : RelS K O ρ H st) (h : EndS K W O ρ st H (m.bx g) D)
    (k : ∀ a st' ρ' H' b, m = .ok a st' → Stp ρ st H ρ' st' H' → RelS K O ρ' H' st' → Rp ρ' st' H' a b → EndS K W O ρ' st' H' (g a st') D → Q' b H') : End K W O Rp ρ st H m Q' := by
  cases m with
  | ok a st' => exact fun ρ' H' b s' S' r => k a st' ρ' H' b rfl s' S' r (EndS.later (show EndS K W O ρ st H (g a st') D from h) S S' s')
  | ex c x st' => exact h
  | no => exact h
theorem bdA {m : R α} {f : α → Sr → R γ} {g : γ → Sr → R δ} : (m.bd f).bd g = m.bd fun a s => (f a s).bd g := by cases m <;> rfl
/-- an end that is there -/
theorem End.at {a : α} {b : β} {Q : β → Hp → Prop} (h : End K W O Rp ρ st H (.ok a st) Q) (S : RelS K O ρ H st) (r : Rp ρ st H a b) : Q b H := h ρ H b .rfl S r
end
section
variable (K : Fg) (W : Str → Option Addr → Hp → Prop)
def TrE (f : En → Sr → R Vl) : TE := fun σ H Q => ∃ O ρ e st, Rel K O ρ σ H e st ∧ End K W O (RpV K O) ρ st H (f e st) Q
def TrT (f : En → Sr → R Bool) : TT := fun σ H Q => ∃ O ρ e st, Rel K O ρ σ H e st ∧ End K W O RpB ρ st H (f e st) Q
def TrA (f : En → Sr → R (List Vl)) : TA := fun σ H Q => ∃ O ρ e st, Rel K O ρ σ H e st ∧ End K W O (RpA K O) ρ st H (f e st) Q
def TrO (f : En → Sr → R (Option Int)) : L2.TO := fun σ H Q => ∃ O ρ e st, Rel K O ρ σ H e st ∧ End K W O RpO ρ st H (f e st) Q
def TrS (f : En → Sr → X) : TS := fun D σ H => ∃ O ρ e st, Rel K O ρ σ H e st ∧ EndS K W O ρ st H (f e st) D
def TrG (f : Vl → En → Sr → X) : TG := fun v σ H Q => ∃ O ρ e st w, Rel K O ρ σ H e st ∧ Rep K O ρ st H w v ∧ EndS K W O ρ st H (f w e st) { nx := Q, rt := fun _ _ => False }
def TrGs (f : List Vl → En → Sr → X) : TGs := fun vs σ H Q => ∃ O ρ e st ws, Rel K O ρ σ H e st ∧ Reps K O ρ st H ws vs ∧ EndS K W O ρ st H (f ws e st) { nx := Q, rt := fun _ _ => False }
/-- an iterator that yields these -/
def ItOk (O : Addr → Prop) (ρ : Nat → Addr) (st : Sr) (H : Hp) (vs : List Vl) (J : It) : Prop := ∀ (Xo O' : Addr → Prop) (ρ' : Nat → Addr) (st' : Sr) (H' : Hp), XO Xo O H → Wid O O' H → StpX Xo ρ st H ρ' st' H' → RelS K O' ρ' H' st' → ∀ i : Nat,
  (∀ v, vs[i]? = some v → J.go i H' ∧ ∀ x H'', J.yld i H' x H'' → Stp ρ' st' H' ρ' st' H'' ∧ RelS K O' ρ' H'' st' ∧ Rep K O' ρ' st' H'' v x) ∧ (vs.length ≤ i → J.stop i H')
def RpI (O : Addr → Prop) : (Nat → Addr) → Sr → Hp → (List Vl ⊕ Nat) → It → Prop := fun ρ st H w J => match w with
  | .inl vs => ItOk K O ρ st H vs J
  | .inr n => n < st.length ∧ J = L2.Itl K (ρ n)
def TrI (f : En → Sr → R (List Vl ⊕ Nat)) : TI := fun σ H Q => ∃ O ρ e st, Rel K O ρ σ H e st ∧ End K W O (RpI K O) ρ st H (f e st) fun J H' => Q J H'
end
/-! ### weaker readings -/
section
variable {C : Cx} {e : Expr} {es : List Expr}
theorem imE {t t' : TE} (h : PE C e t') (k : ∀ σ H Q, t σ H Q → t' σ H Q) : PE C e t := ⟨fun pins s σ H Q I q => h.run pins s σ H Q I (k σ H Q q)⟩
theorem imT {t t' : TT} (h : PT C e t') (k : ∀ σ H Q, t σ H Q → t' σ H Q) : PT C e t := ⟨fun pins s σ H Q I q => h.run pins s σ H Q I (k σ H Q q)⟩
theorem imW {t t' : TT} (h : L2.PW C e t') (k : ∀ σ H Q, t σ H Q → t' σ H Q) : L2.PW C e t := ⟨fun wh pins s σ H Q I q => h.run wh pins s σ H Q I (k σ H Q q)⟩
theorem imA {t t' : TA} (h : PA C es t') (k : ∀ σ H Q, t σ H Q → t' σ H Q) : PA C es t := ⟨fun pos pins s σ H Q I q => h.run pos pins s σ H Q I (k σ H Q q)⟩
theorem imS {x : Stmt} {t t' : TS} (h : PS C x t') (k : ∀ D σ H, t D σ H → t' D σ H) : PS C x t := ⟨fun pins s σ H D I q => h.run pins s σ H D I (k D σ H q)⟩
theorem imSs {x : List Stmt} {t t' : TS} (h : PSs C x t') (k : ∀ D σ H, t D σ H → t' D σ H) : PSs C x t := ⟨fun pins s σ H D I q => h.run pins s σ H D I (k D σ H q)⟩
theorem imG {t t' : TG} (h : PG C e t') (k : ∀ v σ H Q, t v σ H Q → t' v σ H Q) : PG C e t := ⟨fun pins s σ H v u Q I r q => h.run pins s σ H v u Q I r (k v σ H Q q)⟩
theorem imGs {t t' : TGs} (h : PGs C es t') (k : ∀ v σ H Q, t v σ H Q → t' v σ H Q) : PGs C es t := ⟨fun pins s σ H v u Q I r q => h.run pins s σ H v u Q I r (k v σ H Q q)⟩
theorem imI {tg : Expr} {t t' : TI} (h : PI C tg e t') (k : ∀ σ H Q, t σ H Q → t' σ H Q) : PI C tg e t := ⟨fun pins s σ H Q I q => h.run pins s σ H Q I (k σ H Q q)⟩
end
end Mi
end
section
set_option Elab.async false
set_option linter.all false
set_option maxRecDepth 100000
set_option maxHeartbeats 1000000
/-! M8: expressions, each by its parts. -/
namespace Mi
open PySem
open L2 (V HO Hp upd upd_same upd_ne SqL SqT Rd Cx Inv PE PT PA PS PSs PG PGs PI TE TT TA TS TG TGs TI It VK XK Ends RelV Vals ne_of_none OpR R2 EP CallR UnR IxR SlR TruR Gl Vis Loc)
section
variable {K : Fg} {O : Addr → Prop} {ρ : Nat → Addr} {σ : Sg} {H : Hp} {e : En} {st : Sr}
/-! ### what is given away -/
theorem give {n z : Nat} {xs : List P} (S : RelS K O ρ H st) (h : st[n]? = some (.lp z xs)) : Stp ρ st H ρ (st.set n (.lp 1 xs)) H ∧ RelS K O ρ H (st.set n (.lp 1 xs)) ∧ RepP K (Mt O ρ (st.set n (.lp 1 xs))) H (.list xs) (.ref (ρ n)) := by
  have lt := (List.getElem?_eq_some_iff.mp h).1
  have lv : ∀ a, live ρ (st.set n (.lp 1 xs)) a → live ρ st a := fun a ⟨k, o, h1, h2, h3⟩ => by
    by_cases q : n = k
    · subst q
      rw [List.getElem?_set_self lt] at h1
      cases h1; cases h2
    · rw [List.getElem?_set_ne q] at h1
      exact ⟨k, o, h1, h2, h3⟩
  have mt : ∀ a, H a ≠ none → Mt O ρ (st.set n (.lp 1 xs)) a → Mt O ρ st a := fun a _ q => q.elim .inl fun q => .inr (lv a q)
  obtain ⟨u, e1, vs, e2, r⟩ := S.ob n _ h
  refine ⟨⟨by simp, fun _ _ => rfl, fun a q => .inl (lv a q), fun _ _ e _ _ => e, fun k ns e => ?_, fun a ps e => ⟨#[], by rw [e]; simp⟩, fun k z' ys e => ?_, fun k z' ys e => ?_⟩, ⟨fun k o e => ?_, fun a b ha hb => S.inj a b (by simpa using ha) (by simpa using hb), fun k hk => S.out k (by simpa using hk), S.al⟩, ?_⟩
  · by_cases q : n = k
    · subst q; rw [h] at e; cases e
    · exact ⟨ns, by rw [List.getElem?_set_ne q]; exact e⟩
  · by_cases q : n = k
    · subst q; exact ⟨1, xs, by rw [List.getElem?_set_self lt]⟩
    · exact ⟨z', ys, by rw [List.getElem?_set_ne q]; exact e⟩
  · by_cases q : n = k
    · subst q; rw [h] at e; cases e
    · exact ⟨z', ys, by rw [List.getElem?_set_ne q]; exact e⟩
  · by_cases q : n = k
    · subst q
      rw [List.getElem?_set_self lt] at e
      cases e
      exact ⟨u, e1, vs, e2, r.oth mt⟩
    · rw [List.getElem?_set_ne q] at e
      obtain ⟨w, f1, f2⟩ := S.ob k o e
      refine ⟨w, f1, ?_⟩
      cases o with
      | lp z xs => obtain ⟨vs, rfl, r⟩ := f2; exact ⟨vs, rfl, r.oth mt⟩
      | lr ns => exact ⟨f2.1, fun n hn => by simpa using f2.2 n hn⟩
      | dp z kvs => obtain ⟨ks, q, r⟩ := f2; exact ⟨ks, q, r.map fun h => h.oth mt⟩
      | no => exact f2.elim
  · subst e2
    refine .lst (.inl ⟨.inl e1, fun q => ?_⟩) (r.oth mt)
    rcases q with q | ⟨k, o, h1, h2, h3⟩
    · exact S.out n lt q
    · have hk : k < st.length := by
        have := (List.getElem?_eq_some_iff.mp h1).1
        simpa using this
      have := S.inj k n hk lt h3
      subst this
      rw [List.getElem?_set_self lt] at h1
      cases h1; cases h2
theorem toP_ok {v : Vl} {x : P} {st' : Sr} {u : V} (S : RelS K O ρ H st) (h : toP v st = some (x, st')) (r : Rep K O ρ st H v u) : Stp ρ st H ρ st' H ∧ RelS K O ρ H st' ∧ RepP K (Mt O ρ st') H x u := by
  cases v with
  | p y => cases h; exact ⟨.rfl, S, r⟩
  | r n =>
    obtain ⟨hn, rfl⟩ := r
    simp only [toP] at h
    split at h
    · rename_i z xs q
      cases h
      exact give S q
    · cases h
theorem toPL_ok : ∀ {vs : List Vl} {us : List V} {xs : List P} {st st' : Sr}, RelS K O ρ H st → toPL vs st = some (xs, st') → Reps K O ρ st H vs us → Stp ρ st H ρ st' H ∧ RelS K O ρ H st' ∧ ReqP K (Mt O ρ st') H xs us
  | _, _, _, _, _, S, h, .nil => by cases h; exact ⟨.rfl, S, .nil⟩
  | _, _, _, _, _, S, h, .cons r rs => by
    simp only [toPL] at h
    split at h
    · rename_i x s1 e1
      split at h
      · rename_i xs s2 e2
        cases h
        obtain ⟨a1, a2, a3⟩ := toP_ok S e1 r
        obtain ⟨b1, b2, b3⟩ := toPL_ok a2 e2 (rs.stp S a1)
        exact ⟨a1.trans S a2 b1, b2, .cons (a3.stp a2 b1) b3⟩
      · cases h
    · cases h
end
section
variable {C : Cx} {W : Str → Option Addr → Hp → Prop} {a b c : Expr} {es : List Expr} {fa fb fc : En → Sr → R Vl} {fs : En → Sr → R (List Vl)} {pos : Pos}
theorem Rel.go {K : Fg} {O : Addr → Prop} {ρ ρ' : Nat → Addr} {σ : Sg} {H H' : Hp} {e : En} {st st' : Sr} (R : Rel K O ρ σ H e st) (s : Stp ρ st H ρ' st' H') (S : RelS K O ρ' H' st') : Rel K O ρ' σ H' e st' := ⟨S, R.E.stp R.S s⟩
theorem xBin {o : Operator} (ha : PE C a (TrE C.K W fa)) (hb : PE C b (TrE C.K W fb)) : PE C (.BinOp a o b pos) (TrE C.K W fun e s => op2 (binP o) (fa e s) fun s => fb e s) :=
  imE (L2.pe_op (opBin o) ha hb) fun σ H Q ⟨O, ρ, e, st, R, h⟩ => ⟨O, ρ, e, st, R, End.bd R.S h fun x st1 ρ1 H1 v _ s1 S1 r1 h1 => ⟨O, ρ1, e, st1, R.go s1 S1, End.bd S1 h1 fun y st2 ρ2 H2 u _ s2 S2 r2 h2 => by
    split at h2
    · rename_i p q e1 e2
      split at h2
      · rename_i c e3
        exact ⟨O, ρ2, st2, p, q, c, S2, dd_rd S2 (Rep.stp S1 s2 r1) e1, dd_rd S2 r2 e2, e3, fun H' v s' S' r => h2 ρ2 H' v s' S' r⟩
      · exact h2.elim
    · exact h2.elim⟩⟩
theorem xNeg (ha : PE C a (TrE C.K W fa)) : PE C (.UnaryOp .USub a pos) (TrE C.K W fun e s => op1 negP (fa e s)) :=
  imE (L2.pe_un unNeg ha) fun σ H Q ⟨O, ρ, e, st, R, h⟩ => ⟨O, ρ, e, st, R, End.bd R.S h fun x st1 ρ1 H1 v _ s1 S1 r1 h1 => by
    split at h1
    · rename_i p e1
      split at h1
      · rename_i c e3
        exact ⟨O, ρ1, st1, p, c, S1, dd_rd S1 r1 e1, e3, fun H' v s' S' r => h1 ρ1 H' v s' S' r⟩
      · exact h1.elim
    · exact h1.elim⟩
theorem xCmp (hu : C.A.units + 65 < cLine) {o : CmpOp} (hm : behindInMarks o b = false) (ha : PE C a (TrE C.K W fa)) (hb : PE C b (TrE C.K W fb)) : PE C (.Compare a [o] [b] pos) (TrE C.K W fun e s => op2 (fun x y => blP (cmpP o x y)) (fa e s) fun s => fb e s) :=
  imE (L2.pe_cmpR (opCmp hu o) ha hb hm) fun σ H Q ⟨O, ρ, e, st, R, h⟩ => ⟨O, ρ, e, st, R, End.bd R.S h fun x st1 ρ1 H1 v _ s1 S1 r1 h1 => ⟨O, ρ1, e, st1, R.go s1 S1, End.bd S1 h1 fun y st2 ρ2 H2 u _ s2 S2 r2 h2 => by
    split at h2
    · rename_i p q e1 e2
      split at h2
      · rename_i c e3
        simp only [blP, Option.map_eq_some_iff] at e3
        obtain ⟨k, e3, rfl⟩ := e3
        exact ⟨O, ρ2, st2, p, q, k, S2, dd_rd S2 (Rep.stp S1 s2 r1) e1, dd_rd S2 r2 e2, e3, h2.at S2 (RepP.bl k)⟩
      · exact h2.elim
    · exact h2.elim⟩⟩
theorem tCmp (hu : C.A.units + 65 < cLine) {o : CmpOp} (hm : behindInMarks o b = false) (ha : PE C a (TrE C.K W fa)) (hb : PE C b (TrE C.K W fb)) : PT C (.Compare a [o] [b] pos) (TrT C.K W fun e s => tst (op2 (fun x y => blP (cmpP o x y)) (fa e s) fun s => fb e s)) :=
  imT (L2.pt_cmpR (opCmp hu o) ha hb hm) fun σ H Q ⟨O, ρ, e, st, R, h⟩ => by
    simp only [tst, op2, bdA] at h
    refine ⟨O, ρ, e, st, R, End.bd R.S h fun x st1 ρ1 H1 v _ s1 S1 r1 h1 => ⟨O, ρ1, e, st1, R.go s1 S1, End.bd S1 h1 fun y st2 ρ2 H2 u _ s2 S2 r2 h2 => ?_⟩⟩
    split at h2
    · rename_i p q e1 e2
      split at h2
      · rename_i c e3
        simp only [blP, Option.map_eq_some_iff] at e3
        obtain ⟨k, e3, rfl⟩ := e3
        exact ⟨O, ρ2, st2, p, q, k, S2, dd_rd S2 (Rep.stp S1 s2 r1) e1, dd_rd S2 r2 e2, e3, k, rfl, h2.at S2 rfl⟩
      · exact h2.elim
    · exact h2.elim
/-! leaves -/
theorem xC {x : Const} {d : P} (h : ofC x = some d) {k : Nat} : PE C (.Constant x k pos) (TrE C.K W (eC x)) := by
  have go : ∀ {v : V}, PE C (.Constant x k pos) (L2.tC v) → (∀ m H, RepP C.K m H d v) → PE C (.Constant x k pos) (TrE C.K W (eC x)) := fun {v} p r => imE p fun σ H Q ⟨O, ρ, e, st, R, q⟩ => by
    unfold eC Mi.R.of at q
    rw [h] at q
    exact q.at R.S (r _ _)
  cases x with
  | none => cases h; exact go L2.pe_non fun _ _ => .non
  | bool b => cases h; exact go L2.pe_bl fun _ _ => .bl b
  | int i => cases h; exact go L2.pe_int fun _ _ => .int i
  | str y => cases h; exact go L2.pe_str fun _ _ => .str y
  | _ => cases h
theorem xV {i : Nat} {x : Str} (hN : C.N[i]? = some x) (hv : Vis C.env.scope x) (hd : (x == ("__debug__" : Str)) = false) (hcd : (x == ("__classdict__" : Str)) = false) : PE C (.Name x pos) (TrE C.K W (eV i)) :=
  imE (L2.pe_var hN hv hd hcd) fun σ H Q ⟨O, ρ, e, st, R, q⟩ => by
    unfold eV at q
    split at q
    · rename_i v e1
      obtain ⟨u, h1, h2⟩ := R.E.sl i v e1
      exact ⟨u, h1, q.at R.S h2⟩
    · exact q.elim
theorem xG {gl : List P} {i : Nat} {x : Str} {d : P} {u : Value} {v : V} (hg : Gl C x) (hm : C.mg x = some u) (r : RelV v u) (hd : (x == ("__debug__" : Str)) = false) (e : gl[i]? = some d) (rp : ∀ m H, RepP C.K m H d v) : PE C (.Name x pos) (TrE C.K W (eG gl i)) :=
  imE (L2.pe_glob hg hm r hd) fun σ H Q ⟨O, ρ, e', st, R, q⟩ => by
    unfold eG at q
    rw [e] at q
    exact q.at R.S (rp _ _)
/-! displays -/
theorem xTup {k : Nat} (ha : PA C es (TrA C.K W fs)) : PE C (.Tuple es k pos) (TrE C.K W fun e s => (fs e s).bd mkTup) :=
  imE (L2.pe_tup ha) fun σ H Q ⟨O, ρ, e, st, R, h⟩ => ⟨O, ρ, e, st, R, End.bd R.S h fun xs st1 ρ1 H1 vs _ s1 S1 r1 h1 => by
    unfold mkTup at h1
    split at h1
    · rename_i ys s2 e2
      split at h1
      · rename_i hz
        obtain ⟨a1, a2, a3⟩ := toPL_ok S1 e2 r1
        exact ⟨lim_line (by rw [← a3.len]; exact hz), fun p hp => h1 ρ1 _ _ (a1.trans S1 a2 (Stp.new a2 hp)) (a2.new hp) (rep_newT a2 hp a3)⟩
      · exact h1.elim
    · exact h1.elim⟩
theorem mkLst_end {O : Addr → Prop} {ρ : Nat → Addr} {st : Sr} {H : Hp} {m : Bool} {xs : List P} {vs : List V} {Q : VK} {p : Addr} (S : RelS C.K O ρ H st) (h : End C.K W O (RpV C.K O) ρ st H (mkLst m xs st) Q) (hp : H p = none) (r : ReqP C.K (Mt O ρ st) H xs vs) : Q (.ref p) (upd H p (.lst vs)) := by
  unfold mkLst at h
  split at h
  · exact h _ _ _ (Stp.push hp) (S.push hp r) ⟨by simp, by rw [ext_same]⟩
  · exact h ρ _ _ (Stp.new S hp) (S.new hp) (rep_newL S hp r)
theorem xLst {m : Bool} (ha : PA C es (TrA C.K W fs)) : PE C (.List es pos) (TrE C.K W fun e s => (fs e s).bd (mkLstV m)) :=
  imE (L2.pe_lst ha) fun σ H Q ⟨O, ρ, e, st, R, h⟩ => ⟨O, ρ, e, st, R, End.bd R.S h fun xs st1 ρ1 H1 vs _ s1 S1 r1 h1 => by
    unfold mkLstV at h1
    split at h1
    · rename_i ys s2 e2
      split at h1
      · rename_i hz
        obtain ⟨a1, a2, a3⟩ := toPL_ok S1 e2 r1
        exact ⟨lim_line (by rw [← a3.len]; exact hz), fun p hp => mkLst_end a2 (h1.later S1 a2 a1) hp a3⟩
      · exact h1.elim
    · exact h1.elim⟩
theorem aNil : PA C [] (TrA C.K W fun _ s => .ok [] s) := imA L2.pa_nil fun σ H Q ⟨O, ρ, e, st, R, h⟩ => h.at R.S .nil
theorem aCns (ha : PE C a (TrE C.K W fa)) (hr : PA C es (TrA C.K W fs)) (hs : starEach (a :: es) C.env = (false, eval a C.env) :: starEach es C.env) : PA C (a :: es) (TrA C.K W fun e s => (fa e s).bd fun v s => (fs e s).bd fun vs s => .ok (v :: vs) s) :=
  imA (L2.pa_cons ha hr hs) fun σ H Q ⟨O, ρ, e, st, R, h⟩ => ⟨O, ρ, e, st, R, End.bd R.S h fun x st1 ρ1 H1 v _ s1 S1 r1 h1 => ⟨O, ρ1, e, st1, R.go s1 S1, End.bd S1 h1 fun y st2 ρ2 H2 u _ s2 S2 r2 h2 => h2.at S2 (.cons (Rep.stp S1 s2 r1) r2)⟩⟩
/-! subscripts -/
theorem xIx (ha : PE C a (TrE C.K W fa)) (hb : PE C b (TrE C.K W fb)) (hs : L2.PlainIx b) : PE C (.Subscript a b pos) (TrE C.K W fun e s => (fa e s).bd fun o s => (fb e s).bd fun i s => ixV o i s) :=
  imE (L2.pe_ix opIx ha hb hs) fun σ H Q ⟨O, ρ, e, st, R, h⟩ => ⟨O, ρ, e, st, R, End.bd R.S h fun x st1 ρ1 H1 v _ s1 S1 r1 h1 => ⟨O, ρ1, e, st1, R.go s1 S1, End.bd S1 h1 fun y st2 ρ2 H2 u _ s2 S2 r2 h2 => by
    cases q : ixV x y st2 with
    | ok w s' =>
      obtain ⟨e1, rfl⟩ := ixO_ok q
      rw [q] at h2
      exact ⟨O, ρ2, s', x, y, w, S2, Rep.stp S1 s2 r1, r2, e1, fun v r => h2.at S2 r⟩
    | ex c d s' => exact absurd q ixV_ex
    | no => rw [q] at h2; exact h2.elim⟩⟩
theorem oNone {f : En → Sr → R (Option Int)} (hf : ∀ e s, f e s = .ok none s) : L2.PO C none (TrO C.K W f) := ⟨fun pins s σ H Q I ⟨O, ρ, e, st, R, h⟩ => L2.po_none.run pins s σ H Q I (by rw [hf] at h; exact h.at R.S rfl)⟩
theorem oSome {f : En → Sr → R (Option Int)} (hf : ∀ e s, f e s = oneInt (fa e s)) (ha : PE C a (TrE C.K W fa)) : L2.PO C (some a) (TrO C.K W f) := ⟨fun pins s σ H Q I ⟨O, ρ, e, st, R, h⟩ => (L2.po_some ha).run pins s σ H Q I ⟨O, ρ, e, st, R, by
  rw [hf] at h
  exact End.bd R.S h fun x st1 ρ1 H1 v _ s1 S1 r1 h1 => by
    split at h1
    · rename_i i hi
      exact ⟨i, RepP.int_inv r1, h1.at S1 rfl⟩
    · exact h1.elim⟩⟩
theorem xSl {lo hi : Option Expr} {fl fh : En → Sr → R (Option Int)} {p2 : Pos} (ha : PE C a (TrE C.K W fa)) (hl : L2.PO C lo (TrO C.K W fl)) (hh : L2.PO C hi (TrO C.K W fh)) :
    PE C (.Subscript a (.Slice lo hi none p2) pos) (TrE C.K W fun e s => (fa e s).bd fun o s => (fl e s).bd fun l s => (fh e s).bd fun h s => R.of (((dd o s).bind fun x => slP x l h).map .p) s) :=
  imE (L2.pe_slice opSl ha hl hh) fun σ H Q ⟨O, ρ, e, st, R, h⟩ => ⟨O, ρ, e, st, R, End.bd R.S h fun x st1 ρ1 H1 v _ s1 S1 r1 h1 => ⟨O, ρ1, e, st1, R.go s1 S1, End.bd S1 h1 fun l st2 ρ2 H2 l' _ s2 S2 rl h2 =>
    ⟨O, ρ2, e, st2, (R.go s1 S1).go s2 S2, End.bd S2 h2 fun k st3 ρ3 H3 k' _ s3 S3 rk h3 => by
      cases (show l = l' from rl)
      cases (show k = k' from rk)
      cases e1 : dd x st3 with
      | none => rw [e1] at h3; exact h3.elim
      | some d =>
        cases e2 : slP d l k with
        | none => rw [e1, Option.bind_some, e2] at h3; exact h3.elim
        | some c =>
          rw [e1, Option.bind_some, e2] at h3
          exact ⟨O, ρ3, st3, d, c, S3, dd_rd S3 (Rep.stp S2 s3 (Rep.stp S1 s2 r1)) e1, e2, fun H' v s' S' r => h3 ρ3 H' v s' S' r⟩⟩⟩⟩
/-! truth -/
theorem xNt (ha : PE C a (TrE C.K W fa)) : PE C (.UnaryOp .Not a pos) (TrE C.K W fun e s => (tst (fa e s)).bd fun b s => .ok (.p (.bool !b)) s) :=
  imE (L2.pe_notT ha) fun σ H Q ⟨O, ρ, e, st, R, h⟩ => by
    simp only [tst, bdA] at h
    exact ⟨O, ρ, e, st, R, End.bd R.S h fun x st1 ρ1 H1 v _ s1 S1 r1 h1 => by
      cases q : truV x st1 with
      | none => rw [q] at h1; exact h1.elim
      | some k =>
        rw [q] at h1
        unfold truV at q
        cases q2 : dd x st1 with
        | none => rw [q2] at q; cases q
        | some d =>
          rw [q2] at q
          exact ⟨k, rd_tru (C := C) (dd_rd S1 r1 q2) q, h1.at S1 (RepP.bl _)⟩⟩
theorem truV_ok {O : Addr → Prop} {ρ : Nat → Addr} {st : Sr} {H : Hp} {x : Vl} {v : V} {k : Bool} (S : RelS C.K O ρ H st) (r : Rep C.K O ρ st H x v) (q : truV x st = some k) : L2.TruV C.K v H k := by
  unfold truV at q
  cases q2 : dd x st with
  | none => rw [q2] at q; cases q
  | some d => rw [q2] at q; exact rd_tru (C := C) (dd_rd S r q2) q
/-- a test, by the value's truth -/
theorem tVal (ha : PE C a (TrE C.K W fa)) (he : ∀ whole, isTrue a C.env whole = (do let v ← whole; standAt a.pos; holding [v] (truthy v))) : PT C a (TrT C.K W fun e s => tst (fa e s)) :=
  imT (L2.pt_truth ha he) fun σ H Q ⟨O, ρ, e, st, R, h⟩ => ⟨O, ρ, e, st, R, End.bd R.S h fun x st1 ρ1 H1 v _ s1 S1 r1 h1 => by
    cases q : truV x st1 with
    | none => rw [q] at h1; exact h1.elim
    | some k => rw [q] at h1; exact ⟨k, truV_ok S1 r1 q, h1.at S1 rfl⟩⟩
theorem tNt {ft : En → Sr → R Bool} (ha : PT C a (TrT C.K W fun e s => tst (fa e s))) : PT C (.UnaryOp .Not a pos) (TrT C.K W fun e s => tst ((tst (fa e s)).bd fun b s => .ok (.p (.bool !b)) s)) :=
  imT (L2.pt_not ha) fun σ H Q ⟨O, ρ, e, st, R, h⟩ => ⟨O, ρ, e, st, R, by
    dsimp only at h
    rw [show tst ((tst (fa e st)).bd fun b s => .ok (.p (.bool !b)) s) = (tst (fa e st)).bd fun b s => .ok (!b) s by cases tst (fa e st) <;> rfl] at h
    exact End.bd R.S h fun x st1 ρ1 H1 v _ s1 S1 r1 h1 => by
      cases (show x = v from r1)
      exact h1.at S1 rfl⟩
/-! if else -/
theorem xIte {ft : En → Sr → R Bool} (hc : PT C c (TrT C.K W ft)) (ha : PE C a (TrE C.K W fa)) (hb : PE C b (TrE C.K W fb)) : PE C (.IfExp c a b pos) (TrE C.K W fun e s => (ft e s).bd fun k s => if k then fa e s else fb e s) :=
  imE (L2.pe_ifExp hc ha hb) fun σ H Q ⟨O, ρ, e, st, R, h⟩ => ⟨O, ρ, e, st, R, End.bd R.S h fun x st1 ρ1 H1 v _ s1 S1 r1 h1 => by
    cases (show x = v from r1)
    cases x with
    | true => exact ⟨O, ρ1, e, st1, R.go s1 S1, h1⟩
    | false => exact ⟨O, ρ1, e, st1, R.go s1 S1, h1⟩⟩
/-! and, or -/
theorem xOne {op : BoolOp} (ha : PE C a (TrE C.K W fa)) : PE C (.BoolOp op [a] pos) (TrE C.K W fa) := L2.pe_one ha
theorem xOr {rest : List Expr} (ha : PE C a (TrE C.K W fa)) (hb : PE C (.BoolOp .Or (b :: rest) pos) (TrE C.K W fb)) : PE C (.BoolOp .Or (a :: b :: rest) pos) (TrE C.K W fun e s => orP (fa e s) (fun s => fb e s) true) :=
  imE (L2.pe_orT ha hb) fun σ H Q ⟨O, ρ, e, st, R, h⟩ => ⟨O, ρ, e, st, R, End.bd R.S h fun x st1 ρ1 H1 v _ s1 S1 r1 h1 => by
    cases q : truV x st1 with
    | none => rw [q] at h1; exact h1.elim
    | some k =>
      rw [q] at h1
      refine ⟨k, truV_ok S1 r1 q, ?_⟩
      cases k with
      | true => exact h1.at S1 r1
      | false => exact ⟨O, ρ1, e, st1, R.go s1 S1, h1⟩⟩
theorem xAnd {rest : List Expr} (ha : PE C a (TrE C.K W fa)) (hb : PE C (.BoolOp .And (b :: rest) pos) (TrE C.K W fb)) : PE C (.BoolOp .And (a :: b :: rest) pos) (TrE C.K W fun e s => orP (fa e s) (fun s => fb e s) false) :=
  imE (L2.pe_andT ha hb) fun σ H Q ⟨O, ρ, e, st, R, h⟩ => ⟨O, ρ, e, st, R, End.bd R.S h fun x st1 ρ1 H1 v _ s1 S1 r1 h1 => by
    cases q : truV x st1 with
    | none => rw [q] at h1; exact h1.elim
    | some k =>
      rw [q] at h1
      refine ⟨k, truV_ok S1 r1 q, ?_⟩
      cases k with
      | false => exact h1.at S1 r1
      | true => exact ⟨O, ρ1, e, st1, R.go s1 S1, h1⟩⟩
theorem wOne {ft : En → Sr → R Bool} {op : BoolOp} (ha : PT C a (TrT C.K W ft)) : L2.PW C (.BoolOp op [a] pos) (TrT C.K W ft) := by
  cases op with
  | Or => exact L2.pw_or1 ha
  | And => exact L2.pw_and1 ha
theorem tst_or (m : R Vl) (f : Sr → R Vl) : tst (orP m f true) = (tst m).bd fun k s => if k then .ok true s else tst (f s) := by
  unfold tst orP
  cases m with
  | ok v s =>
    show (R.bd (match truV v s with | some c => if c = true then R.ok v s else f s | none => R.no) _) = (R.bd (R.of (truV v s) s) _)
    cases q : truV v s with
    | none => rfl
    | some c =>
      cases c
      · rfl
      · show R.of (truV v s) s = _
        rw [q]; rfl
  | ex c x s => rfl
  | no => rfl
theorem tst_and (m : R Vl) (f : Sr → R Vl) : tst (orP m f false) = (tst m).bd fun k s => if k then tst (f s) else .ok false s := by
  unfold tst orP
  cases m with
  | ok v s =>
    show (R.bd (match truV v s with | some c => if c = false then R.ok v s else f s | none => R.no) _) = (R.bd (R.of (truV v s) s) _)
    cases q : truV v s with
    | none => rfl
    | some c =>
      cases c
      · show R.of (truV v s) s = _
        rw [q]; rfl
      · rfl
  | ex c x s => rfl
  | no => rfl
theorem wOr {rest : List Expr} (ha : PT C a (TrT C.K W fun e s => tst (fa e s))) (hb : L2.PW C (.BoolOp .Or (b :: rest) pos) (TrT C.K W fun e s => tst (fb e s))) : L2.PW C (.BoolOp .Or (a :: b :: rest) pos) (TrT C.K W fun e s => tst (orP (fa e s) (fun s => fb e s) true)) :=
  imW (L2.pw_or ha hb) fun σ H Q ⟨O, ρ, e, st, R, h⟩ => ⟨O, ρ, e, st, R, by
    dsimp only at h
    rw [tst_or] at h
    exact End.bd R.S h fun x st1 ρ1 H1 v _ s1 S1 r1 h1 => by
      cases (show x = v from r1)
      cases x with
      | true => exact h1.at S1 rfl
      | false => exact ⟨O, ρ1, e, st1, R.go s1 S1, h1⟩⟩
theorem wAnd {rest : List Expr} (ha : PT C a (TrT C.K W fun e s => tst (fa e s))) (hb : L2.PW C (.BoolOp .And (b :: rest) pos) (TrT C.K W fun e s => tst (fb e s))) : L2.PW C (.BoolOp .And (a :: b :: rest) pos) (TrT C.K W fun e s => tst (orP (fa e s) (fun s => fb e s) false)) :=
  imW (L2.pw_and ha hb) fun σ H Q ⟨O, ρ, e, st, R, h⟩ => ⟨O, ρ, e, st, R, by
    dsimp only at h
    rw [tst_and] at h
    exact End.bd R.S h fun x st1 ρ1 H1 v _ s1 S1 r1 h1 => by
      cases (show x = v from r1)
      cases x with
      | false => exact h1.at S1 rfl
      | true => exact ⟨O, ρ1, e, st1, R.go s1 S1, h1⟩⟩
end
end Mi
end
section
set_option Elab.async false
set_option linter.all false
set_option maxRecDepth 100000
set_option maxHeartbeats 1000000
/-! M9: xs[::-1], calls of built-ins, append. -/
namespace Mi
open PySem
open L2 (V HO Hp upd upd_same upd_ne SqL SqT Rd Cx Inv PE PT PA PS PSs PG PGs PI TE TT TA TS TG TGs TI It VK XK Ends RelV Vals ne_of_none OpR R2 EP CallR UnR IxR SlR TruR Gl Vis Loc)
section
variable {prog : Program} {w : World} {A : Around} {E : Value → Shared → Prop} {s : Shared}
theorem rev_adj (n : Nat) : Builtin.Slice.sliceAdjust none none (-1) (n : Int) = ((n : Int) - 1, -1) := by
  unfold Builtin.Slice.sliceAdjust
  simp
theorem rev_plc (n : Nat) : Builtin.Slice.slicePlaces ((n : Int) - 1) (-1) (-1) = n := by
  unfold Builtin.Slice.slicePlaces
  simp
  omega
theorem rev_app {sl : Addr} {vk : Value} {n : Nat} {Q : Int × Int × Nat → Shared → Prop} (hs : s.heap.IsSliceOf sl .none .none vk) (pk : IsPart vk (some (-1)))
    (h : Q ((n : Int) - 1, -1, n) s) : wpAny (model prog w) A (Builtin.Slice.sliceApplied (.ref sl) (pure (n : Int))) Q E s := by
  obtain ⟨os, hos, hcs, hds⟩ := id hs
  unfold Builtin.Slice.sliceApplied Builtin.Slice.sliceFields
  refine wpAny_bind (wpAny_bind (wpAny_field hos hds (x := .none) rfl (wpAny_bind (wpAny_field hos hds (x := .none) rfl (wpAny_bind (wpAny_field hos hds (x := vk) rfl (wpAny_pure ?_)))))))
  refine wpAny_bind (HT.slicePart_ pk ?_)
  show wpAny _ _ (if ((-1 : Int) == 0) = true then _ else _) _ _ s
  rw [if_neg (by decide)]
  refine wpAny_bind (HT.slicePart_ .none (wpAny_bind (HT.slicePart_ .none (wpAny_bind (wpAny_pure ?_)))))
  show wpAny _ _ (match Builtin.Slice.sliceAdjust none none (-1) (n : Int) with | (lo, hi) => pure (lo, (-1 : Int), Builtin.Slice.slicePlaces lo hi (-1))) _ _ s
  rw [rev_adj n]
  show wpAny _ _ (pure ((n : Int) - 1, (-1 : Int), Builtin.Slice.slicePlaces ((n : Int) - 1) (-1) (-1))) _ _ s
  rw [rev_plc]
  exact wpAny_pure h
theorem fm_congr {α β : Type} {f g : α → Option β} : ∀ {l : List α}, (∀ a ∈ l, f a = g a) → l.filterMap f = l.filterMap g
  | [], _ => rfl
  | a :: l, h => by
    rw [List.filterMap_cons, List.filterMap_cons, h a List.mem_cons_self, fm_congr fun b hb => h b (List.mem_cons_of_mem _ hb)]
theorem rev_pick (xs : Array Value) : ((List.range xs.size).filterMap fun (k : Nat) => xs[((xs.size : Int) - 1 + (k : Int) * (-1)).toNat]?).toArray = xs.toList.reverse.toArray := by
  have h : ∀ k ∈ List.range xs.size, xs[((xs.size : Int) - 1 + (k : Int) * (-1)).toNat]? = xs.toList.reverse[k]? := fun k hk => by
    have hk' := List.mem_range.mp hk
    rw [show ((xs.size : Int) - 1 + (k : Int) * (-1)).toNat = xs.size - 1 - k by omega, List.getElem?_reverse (by simpa using hk')]
    simp
  have h2 : (List.range xs.size).filterMap (fun (k : Nat) => xs[((xs.size : Int) - 1 + (k : Int) * (-1)).toNat]?) = (List.range xs.toList.reverse.length).filterMap fun k => xs.toList.reverse[k]? := by
    rw [List.length_reverse, Array.length_toList]
    exact fm_congr h
  rw [h2]
  have := PySem.W.krv_all xs.toList.reverse.toArray
  simp at this
  simp [this]
theorem rev_tup {t sl : Addr} {items : Array Value} {vk : Value} {Q : Value → Shared → Prop} (ht : PyProof.Rows.IsTup s.heap t items) (hs : s.heap.IsSliceOf sl .none .none vk) (pk : IsPart vk (some (-1)))
    (h : Q (.ref s.heap.objs.size) { s with heap := s.heap.push { cls := .type "tuple", data := .seq items.toList.reverse.toArray } }) (hsz : items.size ≤ sizeLine) : wpAny (model prog w) A (getItem (.ref t) (.ref sl)) Q E s := by
  have htake : sizeOk (.seq items.toList.reverse.toArray) := by
    show items.toList.reverse.toArray.size ≤ sizeLine
    simpa using hsz
  obtain ⟨os, hos, hcs, hds⟩ := id hs
  have hTs : s.TypeIs (.ref sl) "slice" := ⟨os, hos, hcs⟩
  unfold getItem
  try with_reducible refine wpAny_holding ?_
  first | refine wpAny_bind (wpAny_pure ?_) | skip
  refine wpAny_bind (wpAny_sequenceKey ht.typeIs (by decide) ?_)
  refine wpAny_bind (wpAny_callSpecial?_slot (name := Str.ofString "__getitem__") ht.typeIs PyProof.Rows.slot_tuple_getitem
    (wpAny_call_entry PyProof.Rows.slot_tuple_getitem ht.typeIs PyProof.Rows.entry_tuple_getitem ?_ (PyProof.Rows.args_tuple_getitem _ _)))
  show wpAny _ _ (Builtin.Tuple.tupleItemsOf (.ref t) >>= _) _ _ s
  refine wpAny_bind (PyProof.Rows.tupleItemsOf_ ht ?_)
  refine wpAny_bind (wpAny_typeOf hTs ?_)
  rw [if_pos (by decide)]
  refine wpAny_bind (rev_app hs pk ?_)
  show wpAny _ _ (if ((((items.size : Int) - 1) == 0) && (-1 : Int) == 1 && items.size == items.size) = true then _ else _) _ _ s
  rw [if_neg (by simp), rev_pick]
  first
    | exact wpAny_bind (m := Builtin.Tuple.tupleExact _) (wpAny_newObj_type (wpAny_pure ⟨_, rfl, wpAny_pure h⟩) htake)
    | exact wpAny_bind (m := Builtin.Tuple.tupleExact _) (wpAny_newObj_type (wpAny_bind (wpAny_pure (wpAny_pure ⟨_, rfl, wpAny_pure h⟩))) htake)
    | exact wpAny_bind (wpAny_bind (m := Builtin.Tuple.tupleExact _) (wpAny_newObj_type (wpAny_pure (wpAny_pure ⟨_, rfl, wpAny_pure h⟩)) htake))
    | exact wpAny_bind (wpAny_bind (m := Builtin.Tuple.tupleExact _) (wpAny_newObj_type (wpAny_pure ⟨_, rfl, wpAny_pure h⟩) htake))
end
section
variable {C : Cx} {W : Str → Option Addr → Hp → Prop} {a b c : Expr} {es : List Expr} {fa fb fc : En → Sr → R Vl} {fs : En → Sr → R (List Vl)} {pos : Pos}
/-- x[::-1] -/
theorem xRv {k : Nat} {p1 p2 p3 : Pos} (ha : PE C a (TrE C.K W fa)) : PE C (.Subscript a (.Slice none none (some (.UnaryOp .USub (.Constant (.int 1) k p1) p2)) p3) pos) (TrE C.K W fun e s => op1 rvP (fa e s)) := by
  refine ⟨fun pins s σ H Q I ⟨O, ρ, e, st, R, h⟩ => ?_⟩
  refine PyProof.Rows.Subscript_ (L2.thn (ha.run pins s σ H _ I ⟨O, ρ, e, st, R, End.bd (Q' := fun x H1 => ∃ d c ρ1 st1, rvP d = some c ∧ RdP C.K (Mt O ρ1 st1) H1 d x ∧ RelS C.K O ρ1 H1 st1 ∧ ∀ H' v, Stp ρ1 st1 H1 ρ1 st1 H' → RelS C.K O ρ1 H' st1 → RepP C.K (Mt O ρ1 st1) H' c v → Q v H') R.S h fun x st1 ρ1 H1 v _ s1 S1 r1 h1 => ?_⟩) fun v s1 ⟨x, H1, I1, r1, d, c, ρ1, st1, e1, rd, S1, q⟩ => ?_)
  · split at h1
    · rename_i p e1
      split at h1
      · rename_i c e3
        exact ⟨p, c, ρ1, st1, e3, dd_rd S1 r1 e1, S1, fun H' v s' S' r => h1 ρ1 H' v s' S' r⟩
      · exact h1.elim
    · exact h1.elim
  have hst : L2.PO C (some (.UnaryOp .USub (.Constant (.int 1) k p1) p2)) (L2.tPart (L2.tUn (L2.rU fun i => .int (-i)) (L2.tC (.int 1)))) := L2.po_some (L2.pe_un L2.un_neg L2.pe_int)
  refine wpAny_Slice (L2.thn (L2.po_none.run pins s1 σ H1 (fun o H2 => o = none ∧ H2 = H1) I1 ⟨rfl, rfl⟩) fun vl s2 ⟨l, H2, I2, pl, el, e2⟩ => ?_)
  subst el e2
  refine L2.thn (L2.po_none.run pins s2 σ H2 (fun o H3 => o = none ∧ H3 = H2) I2 ⟨rfl, rfl⟩) fun vu s3 ⟨u, H3, I3, pu, eu, e3⟩ => ?_
  subst eu e3
  refine L2.thn (hst.run pins s3 σ H3 (fun o H4 => o = some (-1) ∧ H4 = H3) I3 ⟨1, rfl, -1, rfl, rfl, rfl⟩) fun vs s4 ⟨o, H4, I4, ps, eo, e4⟩ => ?_
  subst eo e4
  have I5 : Inv C pins σ H4 { s4 with heap := s4.heap.push { cls := .type "slice", data := .fields #[vl, vu, vs] } } := I4.kept (t' := s4.toks) fun b ob q => Heap.get?_push_of_some _ q
  have hp := frsh I5
  cases d with
  | list ds =>
    cases e1
    obtain ⟨a', xs, rfl, hx, rr⟩ := rd.list
    cases r1
    obtain ⟨its, r, ht, hz⟩ := I5.list hx.sq
    have hlen := r.length
    show wpAny (model C.prog C.w) C.A (PyProof.Rows.subscriptTail a (.Slice none none (some (.UnaryOp .USub (.Constant (.int 1) k p1) p2)) p3) (.ref a') (.ref s4.heap.objs.size)) (EP C pins σ Q) C.xe { s4 with heap := s4.heap.push { cls := .type "slice", data := .fields #[vl, vu, vs] } }
    refine PyProof.Rows.tail_any (ops := [.ref a', .ref s4.heap.objs.size]) ht.isList.typeIs (PySem.slot_list_getitem.lookup) ?_ (by with_unfolding_all rfl)
    refine wpAny_getItem_list_slice ht.isList (Heap.IsSliceOf.new _ vl vu vs) pl pu ps (by decide) ?_ (by rw [List.size_toArray]; omega)
    rw [PySem.W.krv_pick]
    exact ⟨.ref _, _, lst_new (t := s4.toks) I5 r.reverse (by rw [List.length_reverse]; exact hz), rfl, q _ _ (Stp.new S1 hp) (S1.new hp) (rep_newL S1 hp rr.rev)⟩
  | tuple ds =>
    cases e1
    obtain ⟨a', xs, rfl, hx, rr⟩ := rd.tup
    cases r1
    cases pl
    cases pu
    obtain ⟨its, r, ht, hz⟩ := I5.tuple hx
    have hlen := r.length
    show wpAny (model C.prog C.w) C.A (PyProof.Rows.subscriptTail a (.Slice none none (some (.UnaryOp .USub (.Constant (.int 1) k p1) p2)) p3) (.ref a') (.ref s4.heap.objs.size)) (EP C pins σ Q) C.xe { s4 with heap := s4.heap.push { cls := .type "slice", data := .fields #[.none, .none, vs] } }
    refine PyProof.Rows.tail_any (ops := [.ref a', .ref s4.heap.objs.size]) ht.typeIs PyProof.Rows.slot_tuple_getitem.lookup ?_ (by with_unfolding_all rfl)
    refine rev_tup ht (Heap.IsSliceOf.new _ .none .none vs) ps ?_ (by rw [List.size_toArray]; omega)
    exact ⟨.ref _, _, tup_new (t := s4.toks) I5 r.reverse (by rw [List.length_reverse]; exact hz), rfl, q _ _ (Stp.new S1 hp) (S1.new hp) (rep_newT S1 hp rr.rev)⟩
  | _ => cases e1
/-! ### calls of built-ins -/
theorem star_cons (t : T) (es : List Expr) (env : Env) : starEach (toE t :: es) env = (false, eval (toE t) env) :: starEach es env := by
  induction t with
  | pl x ih => exact ih
  | dwk x ih => exact ih
  | _ => rfl
/-- no star in an argument list -/
def ns : T → Bool
  | .nil => true
  | .cons _ b => ns b
  | _ => false
theorem ns_star : ∀ (t : T), ns t = true → ∀ (env : Env), (starEach (toEs t) env).any (·.1) = false
  | .nil, _, _ => rfl
  | .cons a b, h, env => by
    show (starEach (toE a :: toEs b) env).any (·.1) = false
    rw [star_cons, List.any_cons, ns_star b h env]
    rfl
theorem back_any (pos : Pos) (l : List (Bool × Sem Value)) : (backTo pos l).any (·.1) = l.any (·.1) := by
  unfold backTo
  rw [List.any_map]
  rfl
def biN : Bi → Str
  | .len => "len"
  | .int => "int"
  | .abs => "abs"
  | .max => "max"
  | .min => "min"
  | .sum => "sum"
  | .all => "all"
  | .any => "any"
  | .tuple => "tuple"
  | .list => "list"
  | .sorted => "sorted"
theorem xCB {x : Str} {id : String} {f : List P → Option P} {T0 T1 : T} {p : Pos} (hc : CallR C (.builtin id) (rPL C.K f)) (hg : Gl C x) (hm : C.mg x = none) (hv : bootBuiltins x = some (.builtin id)) (hn : x ≠ "__name__") (hdb : (x == ("__debug__" : Str)) = false) (hs : ns T1 = true)
    (ha : PA C (toE T0 :: toEs T1) (TrA C.K W fs)) : PE C (.Call (.Name x p) (toE T0 :: toEs T1) [] pos) (TrE C.K W fun e s => opL f (fs e s)) :=
  imE (L2.pe_callB hc hg hm hv ha hn hdb (star_cons _ _ _) (by rw [back_any]; exact ns_star _ hs _)) fun σ H Q ⟨O, ρ, e, st, R, h⟩ => ⟨O, ρ, e, st, R, End.bd R.S h fun x st1 ρ1 H1 v _ s1 S1 r1 h1 => by
    split at h1
    · rename_i as e1
      split at h1
      · rename_i c e3
        exact ⟨O, ρ1, st1, as, c, S1, ddL_rd S1 r1 e1, e3, fun H' v s' S' r => h1 ρ1 H' v s' S' r⟩
      · exact h1.elim
    · exact h1.elim⟩
theorem xCT {x : Str} {id : String} {f : List P → Option P} {T0 T1 : T} {p : Pos} (hc : CallR C (.type id) (rPL C.K f)) (hg : Gl C x) (hm : C.mg x = none) (hv : bootBuiltins x = some (.type id)) (hn : x ≠ "__name__") (hdb : (x == ("__debug__" : Str)) = false) (hs : ns T1 = true)
    (ha : PA C (toE T0 :: toEs T1) (TrA C.K W fs)) : PE C (.Call (.Name x p) (toE T0 :: toEs T1) [] pos) (TrE C.K W fun e s => opL f (fs e s)) :=
  imE (L2.pe_callTy hc hg hm hv ha hn hdb (star_cons _ _ _) (by rw [back_any]; exact ns_star _ hs _)) fun σ H Q ⟨O, ρ, e, st, R, h⟩ => ⟨O, ρ, e, st, R, End.bd R.S h fun x st1 ρ1 H1 v _ s1 S1 r1 h1 => by
    split at h1
    · rename_i as e1
      split at h1
      · rename_i c e3
        exact ⟨O, ρ1, st1, as, c, S1, ddL_rd S1 r1 e1, e3, fun H' v s' S' r => h1 ρ1 H' v s' S' r⟩
      · exact h1.elim
    · exact h1.elim⟩
theorem xBi (hc : C.calm = true) (hu : C.A.units + 65 < cLine) {f : Bi} {T0 T1 : T} {p : Pos} (hg : Gl C (biN f)) (hm : C.mg (biN f) = none) (hs : ns T1 = true) (ha : PA C (toE T0 :: toEs T1) (TrA C.K W fs)) :
    PE C (.Call (.Name (biN f) p) (toE T0 :: toEs T1) [] pos) (TrE C.K W fun e s => opL (biP f) (fs e s)) := by
  cases f with
  | len => exact xCB bLen hg hm (by decide +kernel) (by decide) (by decide) hs ha
  | int => exact xCT bInt hg hm (by decide +kernel) (by decide) (by decide) hs ha
  | abs => exact xCB bAbs hg hm (by decide +kernel) (by decide) (by decide) hs ha
  | max => exact xCB (bMax hc hu) hg hm (by decide +kernel) (by decide) (by decide) hs ha
  | min => exact xCB (bMin hc hu) hg hm (by decide +kernel) (by decide) (by decide) hs ha
  | sum => exact xCB (bSum hc) hg hm (by decide +kernel) (by decide) (by decide) hs ha
  | all => exact xCB (bAll hc) hg hm (by decide +kernel) (by decide) (by decide) hs ha
  | any => exact xCB (bAny hc) hg hm (by decide +kernel) (by decide) (by decide) hs ha
  | tuple => exact xCT bTuple hg hm (by decide +kernel) (by decide) (by decide) hs ha
  | list => exact xCT bList hg hm (by decide +kernel) (by decide) (by decide) hs ha
  | sorted => exact xCB (bSorted hu) hg hm (by decide +kernel) (by decide) (by decide) hs ha
def rIsX (K : Fg) (ty : Str) : List V → Hp → VK → Prop := fun xs H Q => ∃ (m : Addr → Prop) (x : P) (v : V) (b : Bool), xs = [v, .ty (tyN ty)] ∧ RdP K m H x v ∧ tyP ty x = some b ∧ Q (.bl b) H
theorem cIsX {ty : Str} (hk : okTy ty = true) : CallR C (.builtin "isinstance") (rIsX C.K ty) := by
  intro pins s σ H xs us Q I r ⟨m, x, v, b, e1, rd, e2, q⟩
  subst e1
  exact bIsi hk I rd e2 r q
theorem okTy_nm {ty : Str} (hk : okTy ty = true) : ty ≠ "__name__" ∧ (ty == ("__debug__" : Str)) = false := by
  unfold okTy at hk
  simp only [Bool.or_eq_true, beq_iff_eq] at hk
  rcases hk with ((((rfl | rfl) | rfl) | rfl) | rfl) | rfl <;> decide
theorem xIsi {ty : Str} {T0 : T} {p0 p1 : Pos} (hk : okTy ty = true) (hg : Gl C "isinstance") (hm : C.mg "isinstance" = none) (hg2 : Gl C ty) (hm2 : C.mg ty = none) (ha : PE C (toE T0) (TrE C.K W fa)) :
    PE C (.Call (.Name "isinstance" p0) [toE T0, .Name ty p1] [] pos) (TrE C.K W fun e s => op1 (fun x => blP (tyP ty x)) (fa e s)) :=
  imE (L2.pe_callB (cIsX hk) hg hm (by decide +kernel) (L2.pa_cons ha (L2.pa_cons (L2.pe_bltn hg2 hm2 (ty_boot hk) (v := .ty (tyN ty)) rfl (okTy_nm hk).1 (okTy_nm hk).2) L2.pa_nil) (star_cons _ _ _)) (by decide) (by decide) (star_cons _ _ _)) fun σ H Q ⟨O, ρ, e, st, R, h⟩ =>
    ⟨O, ρ, e, st, R, End.bd R.S h fun x st1 ρ1 H1 v _ s1 S1 r1 h1 => by
      split at h1
      · rename_i p e1
        split at h1
        · rename_i c e3
          simp only [blP, Option.map_eq_some_iff] at e3
          obtain ⟨b, e3, rfl⟩ := e3
          exact ⟨Mt O ρ1 st1, p, v, b, rfl, dd_rd S1 r1 e1, e3, h1.at S1 (RepP.bl b)⟩
        · exact h1.elim
      · exact h1.elim⟩
end
end Mi
end
section
set_option Elab.async false
set_option linter.all false
set_option maxRecDepth 100000
set_option maxHeartbeats 1000000
/-! M10: the store is changed: append, o[i] = v; targets; small statements. -/
namespace Mi
open PySem
open L2 (V HO Hp upd upd_same upd_ne SqL SqT Rd Cx Inv PE PT PA PS PSs PG PGs PI TE TT TA TS TG TGs TI It VK XK Ends RelV Vals ne_of_none OpR R2 EP CallR UnR IxR SlR TruR Gl Vis Loc)
section
variable {K : Fg} {O : Addr → Prop} {ρ : Nat → Addr} {σ : Sg} {H : Hp} {e : En} {st : Sr}
/-- a live thing of the store is changed -/
theorem RelS.upd {n : Nat} {o o' : Ob} {h : HO} (S : RelS K O ρ H st) (hn : st[n]? = some o) (s : Stp ρ st H ρ (st.set n o') (L2.upd H (ρ n) h)) (r : RepOb K O ρ (st.set n o') (L2.upd H (ρ n) h) o' h) : RelS K O ρ (L2.upd H (ρ n) h) (st.set n o') := by
  have lt := (List.getElem?_eq_some_iff.mp hn).1
  refine ⟨fun k u e => ?_, fun a b ha hb => S.inj a b (by simpa using ha) (by simpa using hb), fun k hk => S.out k (by simpa using hk), fun a ha => ?_⟩
  · by_cases q : n = k
    · subst q
      rw [List.getElem?_set_self lt] at e
      cases e
      exact ⟨h, upd_same, r⟩
    · rw [List.getElem?_set_ne q] at e
      have lk := (List.getElem?_eq_some_iff.mp e).1
      obtain ⟨w, f1, f2⟩ := S.ob k u e
      refine ⟨w, by rw [upd_ne fun z => q (S.inj k n lk lt z).symm]; exact f1, ?_⟩
      cases u with
      | lp z xs => obtain ⟨vs, rfl, r⟩ := f2; exact ⟨vs, rfl, r.stp S s⟩
      | lr ns => exact ⟨f2.1, fun n hn => by simpa using f2.2 n hn⟩
      | dp z kvs => obtain ⟨ks, q, r⟩ := f2; exact ⟨ks, q, r.map fun h => h.stp S s⟩
      | no => exact f2.elim
  · by_cases q : a = ρ n
    · subst q; exact absurd ha (S.out n lt)
    · rw [upd_ne q]; exact S.al a ha
theorem plain_upd {n : Nat} {xs ys : List P} {us : List V} (S : RelS K O ρ H st) (hn : st[n]? = some (.lp 0 xs)) (r : ReqP K (Mt O ρ st) H ys us) :
    Stp ρ st H ρ (st.set n (.lp 0 ys)) (L2.upd H (ρ n) (.lst us)) ∧ RelS K O ρ (L2.upd H (ρ n) (.lst us)) (st.set n (.lp 0 ys)) := by
  have s : Stp ρ st H ρ (st.set n (.lp 0 ys)) (L2.upd H (ρ n) (.lst us)) := Stp.upd hn rfl (fun _ z => nomatch z) (fun _ _ _ => ⟨_, _, rfl⟩) (fun _ _ z => nomatch z) S
  exact ⟨s, S.upd hn s ⟨us, rfl, r.stp S s⟩⟩
theorem refs_upd {n m : Nat} {xs : List Nat} (S : RelS K O ρ H st) (hn : st[n]? = some (.lr xs)) (hm : m < st.length) :
    Stp ρ st H ρ (st.set n (.lr (xs ++ [m]))) (L2.upd H (ρ n) (.lst (xs.map (fun n => V.ref (ρ n)) ++ [.ref (ρ m)]))) ∧ RelS K O ρ (L2.upd H (ρ n) (.lst (xs.map (fun n => V.ref (ρ n)) ++ [.ref (ρ m)]))) (st.set n (.lr (xs ++ [m]))) := by
  have s : Stp ρ st H ρ (st.set n (.lr (xs ++ [m]))) (L2.upd H (ρ n) (.lst (xs.map (fun n => V.ref (ρ n)) ++ [.ref (ρ m)]))) := Stp.upd hn rfl (fun _ _ => ⟨_, rfl⟩) (fun _ _ z => nomatch z) (fun _ _ z => nomatch z) S
  obtain ⟨w, _, f2⟩ := S.ob n _ hn
  refine ⟨s, S.upd hn s ⟨by simp, fun k hk => ?_⟩⟩
  rw [List.length_set]
  rcases List.mem_append.mp hk with hk | hk
  · exact f2.2 k hk
  · rw [List.mem_singleton.mp hk]; exact hm
/-- o.append(v), by the store -/
theorem appV_ok {o v : Vl} {st' : Sr} {x y : V} (S : RelS K O ρ H st) (h : appV o v st = some st') (ro : Rep K O ρ st H o x) (rv : Rep K O ρ st H v y) :
    ∃ l vs, x = .ref l ∧ H l = some (.lst vs) ∧ vs.length < sizeLine ∧ Stp ρ st H ρ st' (L2.upd H l (.lst (vs ++ [y]))) ∧ RelS K O ρ (L2.upd H l (.lst (vs ++ [y]))) st' := by
  cases o with
  | p d => cases h
  | r n =>
    obtain ⟨hn, rfl⟩ := ro
    simp only [appV] at h
    have lt : ∀ {k : Nat}, k < lim → k < sizeLine := fun {k} hk => Nat.lt_of_lt_of_le hk (by decide +kernel)
    split at h
    · rename_i xs m q
      split at h
      · rename_i hz
        cases h
        obtain ⟨hm, rfl⟩ := rv
        obtain ⟨w, f1, rfl, f2⟩ := S.ob n _ q
        exact ⟨_, _, rfl, f1, by rw [List.length_map]; exact lt hz, refs_upd S q hm⟩
      · cases h
    · rename_i ys q
      split at h
      · rename_i d s1 q1
        split at h
        · rename_i xs q2
          split at h
          · rename_i hz
            cases h
            obtain ⟨a1, a2, a3⟩ := toP_ok S q1 rv
            obtain ⟨w, f1, vs, rfl, f2⟩ := a2.ob n _ q2
            obtain ⟨b1, b2⟩ := plain_upd a2 q2 (f2.app (.cons a3 .nil))
            exact ⟨_, vs, rfl, f1, by rw [← f2.len]; exact lt hz, a1.trans S a2 b1, b2⟩
          · cases h
        · cases h
      · cases h
    · cases h
/-- o[i] = v, by the store -/
theorem setIx_ok {o i v : Vl} {st' : Sr} {x y u : V} (S : RelS K O ρ H st) (h : setIx o i v st = some st') (ro : Rep K O ρ st H o x) (ri : Rep K O ρ st H i y) (rv : Rep K O ρ st H v u) :
    ∃ l vs k j, x = .ref l ∧ y = .int k ∧ H l = some (.lst vs) ∧ L2.ixN vs.length k = some j ∧ Stp ρ st H ρ st' (L2.upd H l (.lst (vs.set j u))) ∧ RelS K O ρ (L2.upd H l (.lst (vs.set j u))) st' := by
  cases o with
  | p d => cases h
  | r n =>
    obtain ⟨hn, rfl⟩ := ro
    simp only [setIx] at h
    split at h
    · rename_i xs k q
      split at h
      · rename_i j d s1 q1 q2
        split at h
        · rename_i ys q3
          cases h
          obtain ⟨a1, a2, a3⟩ := toP_ok S q2 rv
          obtain ⟨w, f1, vs, rfl, f2⟩ := a2.ob n _ q3
          obtain ⟨b1, b2⟩ := plain_upd a2 q3 (f2.set a3 j)
          obtain ⟨w', g1, vs', rfl, g2⟩ := S.ob n _ q
          rw [f1] at g1
          cases g1
          exact ⟨_, vs, k, j, rfl, RepP.int_inv ri, f1, by rw [← g2.len]; exact q1, a1.trans S a2 b1, b2⟩
        · cases h
      · cases h
    · cases h
end
section
variable {C : Cx} {W : Str → Option Addr → Hp → Prop} {a b c : Expr} {es : List Expr} {fa fb fc : En → Sr → R Vl} {fs : En → Sr → R (List Vl)} {pos : Pos}
theorem xApp {T0 T1 : T} {p0 : Pos} (hb : ∀ (nm : Str), attributeBase (toE T0) nm C.env (eval (toE T0) C.env) = eval (toE T0) C.env) (hl : (p0.endLine == pos.line) = true) (ho : PE C (toE T0) (TrE C.K W fa)) (hx : PE C (toE T1) (TrE C.K W fb)) :
    PE C (.Call (.Attribute (toE T0) "append" p0) [toE T1] [] pos) (TrE C.K W fun e s => (fa e s).bd fun o s => if isL o s = true then (fb e s).bd fun v s => R.of ((appV o v s).map fun _ => Vl.p .none) ((appV o v s).getD s) else .no) :=
  imE (L2.pe_bm F.plainAttrs_list F.slot_list_append PySem.F.type_list_append L2.mt_append ho (L2.pa_cons hx L2.pa_nil (star_cons _ _ _)) (hb _) (by rw [star_cons]; rfl) hl (star_cons _ _ _)) fun σ H Q ⟨O, ρ, e, st, R, h⟩ =>
    ⟨O, ρ, e, st, R, End.bd R.S h fun x st1 ρ1 H1 v _ s1 S1 r1 h1 => by
      have fin : ∀ {x2 : Vl} {st2 : Sr} {ρ2 : Nat → Addr} {H2 : Hp} {u : V}, Stp ρ1 st1 H1 ρ2 st2 H2 → RelS C.K O ρ2 H2 st2 → Rep C.K O ρ2 st2 H2 x2 u → End C.K W O (RpV C.K O) ρ2 st2 H2 (Mi.R.of ((appV x x2 st2).map fun _ => Vl.p .none) ((appV x x2 st2).getD st2)) Q → L2.rAppend v [u] H2 Q := by
        intro x2 st2 ρ2 H2 u s2 S2 r2 h2
        cases q : appV x x2 st2 with
        | none => rw [q] at h2; exact h2.elim
        | some st' =>
          rw [q] at h2
          obtain ⟨l, vs, e1, e2, e3, t1, t2⟩ := appV_ok S2 q (Rep.stp S1 s2 r1) r2
          exact ⟨l, vs, u, e1, rfl, e2, e3, h2 ρ2 _ _ t1 t2 .non⟩
      split at h1
      · rename_i hx
        refine ⟨?_, O, ρ1, e, st1, R.go s1 S1, End.bd S1 h1 fun y st2 ρ2 H2 u _ s2 S2 r2 h2 => fin s2 S2 r2 h2⟩
        cases x with
        | p d => cases hx
        | r n =>
          obtain ⟨hn, rfl⟩ := r1
          obtain ⟨w, f1, f2⟩ := S1.ob n st1[n] (by simp [hn])
          cases q : st1[n] with
          | lp z xs => rw [q] at f2; obtain ⟨vs, rfl, _⟩ := f2; exact .inl ⟨rfl, vs, .of f1⟩
          | lr xs => rw [q] at f2; obtain ⟨rfl, _⟩ := f2; exact .inl ⟨rfl, _, .of f1⟩
          | dp z kvs =>
            have e : st1[n]? = some (.dp z kvs) := by rw [← q]; simp [hn]
            simp [e] at hx
          | no => rw [q] at f2; exact f2.elim
      · exact h1.elim⟩
/-! ### targets -/
theorem gNm {i : Nat} {x : Str} (hN : C.N.Nodup) (hi : C.N[i]? = some x) (hx : Loc C.env.scope x) (hf : C.fn x = true ∨ C.env.scope.names.lookup x = some .local) : PG C (.Name x pos) (TrG C.K W (kV i)) :=
  imG (L2.pg_name hN hi hx hf) fun v σ H Q ⟨O, ρ, e, st, w, R, r, h⟩ => h ρ _ H .rfl ⟨R.S, R.E.set r i⟩
theorem gIx {T0 T1 : T} (ha : PE C (toE T0) (TrE C.K W fa)) (hb : PE C (toE T1) (TrE C.K W fb))
    (hs : ∀ v, assign (.Subscript (toE T0) (toE T1) pos) C.env v = (do
      let ov ← holding [v] (eval (toE T0) C.env)
      let iv ← holding [v, ov] (eval (toE T1) C.env)
      standAt pos
      holding [v, ov, iv] (setItem ov iv v)
      release [v, ov, iv] [])) : PG C (.Subscript (toE T0) (toE T1) pos) (TrG C.K W fun v e s => (fa e s).bx fun o s => (fb e s).bx fun i s =>
        match setIx o i v s with
        | some s => .nx e s
        | none => .no) :=
  imG (L2.pg_sub ha hb L2.set_list hs) fun v σ H Q ⟨O, ρ, e, st, w, R, r, h⟩ => ⟨O, ρ, e, st, R, End.bx R.S h fun x st1 ρ1 H1 u _ s1 S1 r1 h1 => ⟨O, ρ1, e, st1, R.go s1 S1, End.bx S1 h1 fun y st2 ρ2 H2 z _ s2 S2 r2 h2 => by
    cases q : setIx x y w st2 with
    | none => rw [q] at h2; exact h2.elim
    | some st' =>
      rw [q] at h2
      obtain ⟨l, vs, k, j, e1, e2, e3, e4, t1, t2⟩ := setIx_ok S2 q (Rep.stp S1 s2 r1) r2 (Rep.stp S1 s2 (Rep.stp R.S s1 r))
      exact ⟨l, vs, k, j, e1, e2, e3, e4, h2 ρ2 σ _ t1 ⟨t2, (((R.go s1 S1).go s2 S2).go t1 t2).E⟩⟩⟩⟩
theorem gsNil : PGs C [] (TrGs C.K W ksNil) := imGs L2.pgs_nil fun v σ H Q ⟨O, ρ, e, st, w, R, r, h⟩ => by
  cases r with
  | nil => exact ⟨rfl, h ρ σ H .rfl R⟩
  | cons _ _ => exact h.elim
theorem gsCons {T0 : T} {es : List Expr} {fk : Vl → En → Sr → X} {fks : List Vl → En → Sr → X} (ha : PG C (toE T0) (TrG C.K W fk)) (hb : PGs C es (TrGs C.K W fks)) (hs : (assignEach (toE T0 :: es) C.env).map (·.2) = assign (toE T0) C.env :: (assignEach es C.env).map (·.2)) :
    PGs C (toE T0 :: es) (TrGs C.K W fun vs e s => match vs with
      | v :: r => (fk v e s).th fun e s => fks r e s
      | [] => .no) := imGs (L2.pgs_cons ha hb hs) fun v σ H Q ⟨O, ρ, e, st, w, R, r, h⟩ => by
  cases r with
  | nil => exact h.elim
  | @cons x xs v vs r rs =>
    refine ⟨v, vs, rfl, O, ρ, e, st, x, R, r, ?_⟩
    simp only at h
    cases q : fk x e st with
    | nx e' st' => rw [q] at h; exact fun ρ' σ' H' s' R' => ⟨O, ρ', e', st', xs, R', rs.stp R.S s', EndS.later (show EndS C.K W O ρ st H (fks xs e' st') _ from h) R.S R'.S s'⟩
    | ex c x s' => rw [q] at h; exact h
    | no => rw [q] at h; exact h.elim
    | rt a s' => rw [q] at h; exact h
    | bk e' s' => rw [q] at h; exact h
    | ct e' s' => rw [q] at h; exact h
theorem gTup {k n : Nat} {es : List Expr} {fks : List Vl → En → Sr → X} (hc : C.calm = true) (ha : PGs C es (TrGs C.K W fks)) (hn : (assignEach es C.env).length = n) (hst : (assignEach es C.env).findIdx? (·.1) = none) :
    PG C (.Tuple es k pos) (TrG C.K W fun v e s => match outOf v s with
      | some vs => if vs.length = n then fks vs e s else .no
      | none => .no) := imG (L2.pg_tup hc ha hn hst) fun v σ H Q ⟨O, ρ, e, st, w, R, r, h⟩ => by
  cases w with
  | r m => exact h.elim
  | p d =>
    cases d with
    | tuple xs =>
      obtain ⟨a, vs, rfl, h1, h2⟩ := RepP.tup_inv r
      have h' : EndS C.K W O ρ st H (if (xs.map Vl.p).length = n then fks (xs.map .p) e st else .no) { nx := Q, rt := fun _ _ => False } := h
      by_cases q : (xs.map Vl.p).length = n
      · rw [if_pos q] at h'
        exact ⟨a, vs, rfl, h1, by rw [← q, List.length_map, h2.len], O, ρ, e, st, xs.map .p, R, h2.reps, h'⟩
      · rw [if_neg q] at h'
        exact h'.elim
    | _ => exact h.elim
/-! ### statements -/
theorem sNil : PSs C [] (TrS C.K W fun e s => .nx e s) := imSs L2.pss_nil fun D σ H ⟨O, ρ, e, st, R, h⟩ => h ρ σ H .rfl R
theorem sCons {x : Stmt} {xs : List Stmt} {f g : En → Sr → X} (ha : PS C x (TrS C.K W f)) (hb : PSs C xs (TrS C.K W g)) : PSs C (x :: xs) (TrS C.K W fun e s => (f e s).th g) :=
  imSs (L2.pss_cons ha hb) fun D σ H ⟨O, ρ, e, st, R, h⟩ => by
    refine ⟨O, ρ, e, st, R, ?_⟩
    dsimp only at h
    cases q : f e st with
    | nx e' st' => rw [q] at h; exact fun ρ' σ' H' s' R' => ⟨O, ρ', e', st', R', EndS.later (show EndS C.K W O ρ st H (g e' st') D from h) R.S R'.S s'⟩
    | ex c x s' => rw [q] at h; exact h
    | no => rw [q] at h; exact h.elim
    | rt a s' => rw [q] at h; exact h
    | bk e' s' => rw [q] at h; exact h
    | ct e' s' => rw [q] at h; exact h
theorem sPass : PS C (.Pass pos) (TrS C.K W fun e s => .nx e s) := imS L2.ps_pass fun D σ H ⟨O, ρ, e, st, R, h⟩ => h ρ σ H .rfl R
theorem sBreak : PS C (.Break pos) (TrS C.K W fun e s => .bk e s) := imS L2.ps_break fun D σ H ⟨O, ρ, e, st, R, h⟩ => h ρ σ H .rfl R
theorem sCont : PS C (.Continue pos) (TrS C.K W fun e s => .ct e s) := imS L2.ps_continue fun D σ H ⟨O, ρ, e, st, R, h⟩ => h ρ σ H .rfl R
theorem sRet (ha : PE C a (TrE C.K W fa)) : PS C (.Return (some a) pos) (TrS C.K W fun e s => (fa e s).bx fun v s => .rt v s) :=
  imS (L2.ps_ret ha) fun D σ H ⟨O, ρ, e, st, R, h⟩ => ⟨O, ρ, e, st, R, End.bx R.S h fun x st1 ρ1 H1 u _ s1 S1 r1 h1 => h1 ρ1 H1 u .rfl S1 r1⟩
theorem sExp (ha : PE C a (TrE C.K W fa)) (hs : swapsWith a none pos.line C.env = pure false) : PS C (.Expr a pos) (TrS C.K W fun e s => (fa e s).bx fun _ s => .nx e s) :=
  imS (L2.ps_expr ha hs) fun D σ H ⟨O, ρ, e, st, R, h⟩ => ⟨O, ρ, e, st, R, End.bx R.S h fun x st1 ρ1 H1 u _ s1 S1 r1 h1 => h1 ρ1 σ H1 .rfl (R.go s1 S1)⟩
theorem sIfS {c : Expr} {xs ys : List Stmt} {ft : En → Sr → R Bool} {f g : En → Sr → X} (hc : PT C c (TrT C.K W ft)) (ha : PSs C xs (TrS C.K W f)) (hb : PSs C ys (TrS C.K W g)) : PS C (.If c xs ys pos) (TrS C.K W fun e s => (ft e s).bx fun k s => if k then f e s else g e s) :=
  imS (L2.ps_if hc ha hb) fun D σ H ⟨O, ρ, e, st, R, h⟩ => ⟨O, ρ, e, st, R, End.bx R.S h fun x st1 ρ1 H1 v _ s1 S1 r1 h1 => by
    cases (show x = v from r1)
    cases x with
    | true => exact ⟨O, ρ1, e, st1, R.go s1 S1, h1⟩
    | false => exact ⟨O, ρ1, e, st1, R.go s1 S1, h1⟩⟩
theorem sAsg {tg : Expr} {fk : Vl → En → Sr → X} (ha : PE C a (TrE C.K W fa)) (hg : PG C tg (TrG C.K W fk)) (hs : swapsWithSole [tg] a pos.line C.env = pure false) (hw : swappedStores [tg] a C.env = pure none) (h1 : (assignEach [tg] C.env).map (·.2) = [assign tg C.env])
    (hk : ∀ v e s e' s', fk v e s ≠ .bk e' s' ∧ fk v e s ≠ .ct e' s' ∧ ∀ w, fk v e s ≠ .rt w s') : PS C (.Assign [tg] a pos) (TrS C.K W fun e s => (fa e s).bx fun v s => fk v e s) :=
  imS (L2.ps_asg ha hg hs hw h1) fun D σ H ⟨O, ρ, e, st, R, h⟩ => ⟨O, ρ, e, st, R, End.bx R.S h fun x st1 ρ1 H1 v _ s1 S1 r1 h1 => ⟨O, ρ1, e, st1, x, R.go s1 S1, r1, by
    cases q : fk x e st1 with
    | nx e' st' => rw [q] at h1; exact h1
    | ex c x s' => rw [q] at h1; exact h1
    | no => rw [q] at h1; exact h1.elim
    | rt a s' => exact absurd q ((hk _ _ _ e s').2.2 a)
    | bk e' s' => exact absurd q (hk _ _ _ e' s').1
    | ct e' s' => exact absurd q (hk _ _ _ e' s').2.1⟩⟩
/-! aug -/
theorem opAug (o : Operator) : OpR C (inplaceOp o) (fun x y H Q => ∃ (m : Addr → Prop) (a b c : P), RdP C.K m H a x ∧ RdP C.K m H b y ∧ augP o a b = some c ∧ ∀ v, (∀ m H, RepP C.K m H c v) → Q v H) := by
  intro pins s σ H x y v u Q I rx ry ⟨m, a, b, c, ra, rb, e, k⟩
  cases o with
  | Add =>
    cases a with
    | int i =>
      cases b with
      | int j => cases e; exact L2.iop_add pins s σ H x y v u Q I rx ry ⟨i, j, ra.int, rb.int, k _ fun _ _ => .int _⟩
      | _ => simp [augP] at e
    | _ => simp [augP] at e
  | Sub =>
    cases a with
    | int i =>
      cases b with
      | int j => cases e; exact L2.iop_sub pins s σ H x y v u Q I rx ry ⟨i, j, ra.int, rb.int, k _ fun _ _ => .int _⟩
      | _ => simp [augP] at e
    | _ => simp [augP] at e
  | Mult =>
    cases a with
    | int i =>
      cases b with
      | int j =>
        simp only [augP] at e
        split at e
        · rename_i hm
          cases e
          cases ra.int
          cases rb.int
          obtain ⟨t, rfl⟩ := rx
          obtain ⟨t', rfl⟩ := ry
          exact PyProof.Rows.imul_int ⟨.int _, H, I.tok _, ⟨_, rfl⟩, k _ fun _ _ => .int _⟩ (mul_ok hm)
        · cases e
      | _ => simp [augP] at e
    | _ => simp [augP] at e
  | _ => simp [augP] at e
theorem sAug {i : Nat} {x : Str} {o : Operator} {pos' : Pos} (hN : C.N.Nodup) (hi : C.N[i]? = some x) (hx : Loc C.env.scope x) (hf : C.fn x = true ∨ C.env.scope.names.lookup x = some .local) (ha : PE C a (TrE C.K W fa)) :
    PS C (.AugAssign (.Name x pos') o a pos) (TrS C.K W fun e s => (eV i e s).bx fun v s => (fa e s).bx fun w s =>
      match agV o v w s with
      | some c => kV i (.p c) e s
      | none => .no) :=
  imS (L2.ps_aug hN hi hx ha (fun pins s σ H x y v u Q I r1 r2 h => opAug o pins s σ H x y v u Q I r1 r2 h) hf) fun D σ H ⟨O, ρ, e, st, R, h⟩ => by
    unfold eV at h
    dsimp only at h
    split at h
    · rename_i v e1
      obtain ⟨u, h1, h2⟩ := R.E.sl i v e1
      refine ⟨u, h1, O, ρ, e, st, R, End.bx R.S (show EndS C.K W O ρ st H ((fa e st).bx _) D from h) fun y st1 ρ1 H1 w _ s1 S1 r1 h1 => ?_⟩
      have r2 := Rep.stp R.S s1 h2
      cases v with
      | r n => exact h1.elim
      | p d =>
        simp only [agV] at h1
        cases q : dd y st1 with
        | none => rw [q] at h1; exact h1.elim
        | some b =>
          rw [q] at h1
          dsimp only at h1
          cases q2 : augP o d b with
          | none => rw [q2] at h1; exact h1.elim
          | some c =>
            rw [q2] at h1
            exact ⟨Mt O ρ1 st1, d, b, c, .of r2, dd_rd S1 r1 q, q2, fun v hv => h1 ρ1 _ H1 .rfl ⟨S1, RelE.set (x := .p c) (R.go s1 S1).E (hv _ _) i⟩⟩
    · exact h.elim
def rGetL (K : Fg) : V → V → Hp → VK → Prop := fun x y H Q => ∃ p xs i v, x = .ref p ∧ y = .int i ∧ SqL K H p xs ∧ L2.atI xs i = some v ∧ Q v H
theorem pGet : L2.PGet C (rGetL C.K) := by
  intro pins s σ H o i ov iv Q I ro ri ⟨p, xs, k, z, e1, e2, hq, he, q⟩
  subst e1 e2
  cases ro
  obtain ⟨t, rfl⟩ := ri
  obtain ⟨its, r, pl, hz⟩ := I.list hq
  obtain ⟨j, h1, h2, h3, h4, h5⟩ := L2.atI_get he
  obtain ⟨w, ew, rw'⟩ := r.get h2
  have hl := r.length
  have hn := L2.line63
  have fin : EP C pins σ Q w s := ⟨z, H, I, rw', q⟩
  by_cases h0 : 0 ≤ k
  · have hj : k.toNat = j := by
      rw [PySem.seqIndex_of h0 h5] at h1
      exact Option.some.inj h1
    exact wpAny_getItem_list pl.isList h0 (by omega) (by rw [hj]; simpa using ew) fin
  · have hj : (k + (its.toArray.size : Int)).toNat = j := by
      rw [PySem.seqIndex_neg (by omega) h4] at h1
      rw [List.size_toArray, ← hl]
      exact Option.some.inj h1
    exact wpAny_getItem_list_neg pl.isList (by omega) (by rw [List.size_toArray] <;> omega) (by omega) (by rw [hj]; simpa using ew) fin
theorem ixV_ref {O : Addr → Prop} {ρ : Nat → Addr} {st : Sr} {H : Hp} {n : Nat} {i v : Vl} {st' : Sr} {x y : V} (S : RelS C.K O ρ H st) (h : ixV (.r n) i st = .ok v st') (ro : Rep C.K O ρ st H (.r n) x) (ri : Rep C.K O ρ st H i y) :
    st' = st ∧ ∃ l vs k w, x = .ref l ∧ y = .int k ∧ SqL C.K H l vs ∧ L2.atI vs k = some w ∧ Rep C.K O ρ st H v w := by
  refine ⟨(ixO_ok h).2, ?_⟩
  obtain ⟨hn, rfl⟩ := ro
  unfold ixV at h
  split at h
  · rename_i j hj
    have hi := (dd_rd S ri hj).int
    subst hi
    dsimp only at h
    split at h
    · rename_i z xs hst
      cases hx : L2.atI xs j with
      | none => rw [hx] at h; cases h
      | some d =>
        rw [hx] at h
        cases h
        obtain ⟨h, e1, vs, rfl, r⟩ := S.ob n _ hst
        obtain ⟨n', h1, h2⟩ := atI_some hx
        obtain ⟨z, h3, h4⟩ := r.get h1
        exact ⟨_, vs, j, z, rfl, rfl, .of e1, by rw [h2 vs r.len.symm, h3], h4⟩
    · rename_i xs hst
      cases hx : L2.atI xs j with
      | none => rw [hx] at h; cases h
      | some d =>
        rw [hx] at h
        cases h
        obtain ⟨h, e1, rfl, r⟩ := S.ob n _ hst
        obtain ⟨n', h1, h2⟩ := atI_some hx
        refine ⟨_, _, j, .ref (ρ d), rfl, rfl, .of e1, ?_, r d (List.mem_of_getElem? h1), rfl⟩
        rw [h2 (xs.map fun n => V.ref (ρ n)) (by simp)]
        simp [h1]
    · cases h
  · cases h
theorem sAgIx {T0 T1 : T} {o : Operator} {q : Pos} (ha : PE C (toE T0) (TrE C.K W fa)) (hb : PE C (toE T1) (TrE C.K W fb)) (hc : PE C c (TrE C.K W fc))
    (hs : ∀ ov iv new, augStore (toE T1) ov iv new = (do holding [new, ov, iv] (setItem ov iv new); release [new, ov, iv] []; pure .next)) :
    PS C (.AugAssign (.Subscript (toE T0) (toE T1) q) o c pos) (TrS C.K W fun e s => (fa e s).bx fun l s => (fb e s).bx fun i s => if isR l then (ixV l i s).bx fun v s => (fc e s).bx fun w s =>
      match agV o v w s with
      | some c => match setIx l i (.p c) s with
        | some s => .nx e s
        | none => .no
      | none => .no
      else .no) :=
  imS (L2.ps_augS ha hb pGet hc (fun pins s σ H x y v u Q I r1 r2 h => opAug o pins s σ H x y v u Q I r1 r2 h) L2.set_list hs) fun D σ H ⟨O, ρ, e, st, R, h⟩ => ⟨O, ρ, e, st, R, End.bx R.S h fun x st1 ρ1 H1 v _ s1 S1 r1 h1 => ⟨O, ρ1, e, st1, R.go s1 S1, End.bx S1 h1 fun y st2 ρ2 H2 u _ s2 S2 r2 h2 => by
    cases x with
    | p d => exact h2.elim
    | r n =>
      rw [if_pos (show isR (.r n) = true from rfl)] at h2
      cases q : ixV (.r n) y st2 with
      | ex a b s' => exact absurd q ixV_ex
      | no => rw [q] at h2; exact h2.elim
      | ok w s' =>
        rw [q] at h2
        have r1' := Rep.stp S1 s2 r1
        obtain ⟨rfl, l, vs, k, z, e1, e2, e3, e4, e5⟩ := ixV_ref S2 q r1' r2
        subst e1 e2
        refine ⟨l, vs, k, z, rfl, rfl, e3, e4, O, ρ2, e, s', (R.go s1 S1).go s2 S2, End.bx S2 (show EndS C.K W O ρ2 s' H2 ((fc e s').bx _) D from h2) fun y3 st3 ρ3 H3 u3 _ s3 S3 r3 h3 => ?_⟩
        cases q1 : agV o w y3 st3 with
        | none => rw [q1] at h3; exact h3.elim
        | some cc =>
          rw [q1] at h3
          dsimp only at h3
          cases q2 : setIx (.r n) y (.p cc) st3 with
          | none => rw [q2] at h3; exact h3.elim
          | some st4 =>
            rw [q2] at h3
            unfold agV at q1
            split at q1
            · rename_i a b q4
              refine ⟨Mt O ρ3 st3, a, b, cc, .of (Rep.stp S2 s3 e5), dd_rd S3 r3 q4, q1, fun v5 hv => ?_⟩
              obtain ⟨l', vs', k', j, e6, e7, e8, e9, t1, t2⟩ := setIx_ok (v := .p cc) (u := v5) S3 q2 (Rep.stp S2 s3 r1') (Rep.stp S2 s3 r2) (hv _ _)
              exact ⟨l', vs', k', j, e6, e7, e8, e9, h3 ρ3 σ _ t1 ⟨t2, ((((R.go s1 S1).go s2 S2).go s3 S3).go t1 t2).E⟩⟩
            · cases q1⟩⟩
end
end Mi
end
section
set_option Elab.async false
set_option linter.all false
set_option maxRecDepth 100000
set_option maxHeartbeats 2000000
/-! N0: enumerate over a tuple. -/
namespace Mi
open PySem
open L2 (V HO Hp upd upd_same upd_ne SqL SqT Rd Cx Inv PE PT PA PS PSs PG PGs PI TE TT TA TS TG TGs TI It VK XK Ends RelV Vals ne_of_none OpR R2 EP CallR UnR IxR SlR TruR Gl Vis Loc Turn PIE)
theorem enT_new (c : Addr) (its : Array Value) (k : Nat) (dc : Option Addr) (sl : Array (Option Value)) :
    Meets (Builtin.«enumerate.__new__» ⟨[.type "enumerate", .ref c], []⟩) (fun _ R s => s.heap.get? c = some { cls := .type "tuple", dict := dc, data := .seq its k, slots := sl } ∧
      R (.ok (.ret (.ref (s.heap.push { cls := .type "tuple_iterator", data := .fields #[.ref c, .int 0 0] }).objs.size)))
        { s with heap := (s.heap.push { cls := .type "tuple_iterator", data := .fields #[.ref c, .int 0 0] }).push { cls := .type "enumerate", data := .fields #[.none, .bool false, .ref s.heap.objs.size, rawInt 0, .none, .none] } }) :=
  .of_wp fun prog w A R s h => by
    obtain ⟨hp, g, d, tk, os⟩ := s
    obtain ⟨hc, h⟩ := h
    have hT : Heap.IsTuple hp c its := ⟨_, hc, rfl, k, rfl⟩
    have hsub := sub_enumerate
    wp_walk using wpAny_loadPart' hc
    refine wpAny_stack_any fun st => wpAny_pure ?_
    split
    · rename_i z _ _ _ _ _
      cases (z == Value.type "enumerate")
      · wp_walk using wpAny_loadPart' hc, wpAny_pyIter_tuple hT
        exact ⟨_, rfl, h⟩
      · wp_walk using wpAny_loadPart' hc, wpAny_pyIter_tuple hT
        exact ⟨_, rfl, h⟩
    · wp_walk using wpAny_loadPart' hc, wpAny_pyIter_tuple hT
      exact ⟨_, rfl, h⟩
theorem call_enT {prog : Program} {w : World} {A : Around} {E : Value → Shared → Prop} {s : Shared} {c : Addr} {its : Array Value} {Q : Value → Shared → Prop} (hT : s.heap.IsTuple c its)
    (h : ∀ h', IsEnum h' (s.heap.objs.size + 1) s.heap.objs.size 0 .none → h'.IsTupleIter s.heap.objs.size c 0 → (∀ b o, s.heap.get? b = some o → h'.get? b = some o) → Q (.ref (s.heap.objs.size + 1)) { s with heap := h' }) :
    wpAny (model prog w) A (call (.type "enumerate") [.ref c]) Q E s := by
  obtain ⟨⟨z, dc, dt, sl⟩, hl, hc, k, hd⟩ := hT
  replace hc : z = .type "tuple" := hc
  replace hd : dt = .seq its k := hd
  subst hc hd
  refine callType_new F.called_enumerate (by decide) (F.typeCall_enumerate_1 _) (F.newCall_enumerate_1 _) (fun obj => F.args_object_init_2 obj _) F.entry_enumerate_new (enT_new c its k dc sl) ⟨hl, ?_⟩
  have hz : (s.heap.push { cls := .type "tuple_iterator", data := .fields #[.ref c, .int 0 0] }).objs.size = s.heap.objs.size + 1 := Heap.size_push ..
  show _ ∧ _
  rw [hz]
  have he : IsEnum ((s.heap.push { cls := .type "tuple_iterator", data := .fields #[.ref c, .int 0 0] }).push { cls := .type "enumerate", data := .fields #[.none, .bool false, .ref s.heap.objs.size, rawInt 0, .none, .none] }) (s.heap.objs.size + 1) s.heap.objs.size 0 .none := by
    have q := Heap.get?_push_size (s.heap.push { cls := .type "tuple_iterator", data := .fields #[.ref c, .int 0 0] }) (o := { cls := .type "enumerate", data := .fields #[.none, .bool false, .ref s.heap.objs.size, rawInt 0, .none, .none] }) rfl
    rw [hz] at q
    exact q
  exact ⟨⟨_, he, rfl⟩, h _ he ⟨_, Heap.get?_push_of_some _ (Heap.get?_push_size _ rfl), rfl, rfl⟩ fun b o x => Heap.get?_push_of_some _ (Heap.get?_push_of_some _ x)⟩
/-- the tuple at a, each item in a new pair -/
def EnT (K : Fg) (a : Addr) : It :=
  ⟨fun i H => ∃ (ys : List V) (y : V), SqT K H a ys ∧ ys[i]? = some y, fun i H v H' => ∃ p y, v = .ref p ∧ H p = none ∧ H' = upd H p (.tup [.int (i : Nat), y]) ∧ ∀ ys, SqT K H a ys → ys[i]? = some y, fun i H => ∃ ys : List V, SqT K H a ys ∧ ys.length ≤ i⟩
theorem pn_end {prog : Program} {w : World} {A : Around} {E : Value → Shared → Prop} {s : Shared} {e it c : Addr} {j : Nat} {k : Int} {its : Array Value} {old : Value} {Q : Option Value → Shared → Prop} (hh : A.handled = none)
    (he : IsEnum s.heap e it k old) (hit : s.heap.IsTupleIter it c j) (hT : s.heap.IsTuple c its) (hx : its[j]? = none) (hQ : ∀ h', Heap.ExtBut it s.heap h' → Q none { s with heap := h' }) : wpAny (model prog w) A (pyNext (.ref e)) Q E s := by
  have ty : s.TypeIs (.ref e) "enumerate" := ⟨_, he, rfl⟩
  unfold pyNext
  refine wpAny_bind (wpAny_attempt (wpAny_callSpecial?_slot (name := Str.ofString "__next__") ty F.slot_enumerate_next (wpAny_call_entry F.slot_enumerate_next ty F.entry_enumerate_next ?_ (F.args_enumerate_next_1 _))))
  show wpAny _ _ (field (.ref e) 2 >>= _) _ _ _
  refine wpAny_bind (wpAny_field he rfl (x := .ref it) rfl ?_)
  refine wpAny_bind (wpAny_nextOf_tuple_end hh hit hT hx fun h' x he' hx' => ?_)
  obtain ⟨o, ho, hc⟩ := hx'
  exact wpAny_bind (wpAny_isInstance (T := "StopIteration") (b := true) ⟨o, ho, hc⟩ isSubtype_stop (wpAny_pure (hQ _ he')))
theorem turn_enT {Pr : Program} {w : World} {K : Fg} {elts : List Expr} {kk : Nat} {tpos : Pos} (a e it : Addr) :
    Turn Pr w K (.Tuple elts kk tpos) (EnT K a) [e, it] e (fun i h => (∃ old, IsEnum h e it ((i : Nat) : Int) old) ∧ h.IsTupleIter it a i ∧ e ≠ it) where
  mem := by simp
  obj := fun i h st b hb => by
    obtain ⟨⟨old, he⟩, ⟨o, ho, hc, hd⟩, _⟩ := st
    have e' : b = e ∨ b = it := by simpa using hb
    rcases e' with rfl | rfl
    · exact ⟨_, he, fun v q => nomatch q⟩
    · exact ⟨o, ho, fun v q => by rw [hd] at q; cases q⟩
  keep := fun i h h' st k => let ⟨⟨old, he⟩, hi, hne⟩ := st; ⟨⟨old, k e (by simp) _ he⟩, hi.at fun o q => k it (by simp) o q, hne⟩
  item := by
    intro X hP hw hK hc i pins s σ H E I hf st hg
    subst hP hw hK
    obtain ⟨⟨old, he⟩, hit, hne⟩ := st
    obtain ⟨ys, y, hq, hy⟩ := hg
    obtain ⟨its, rv, hT, hz⟩ := I.tuple hq
    obtain ⟨u, hu, ru⟩ := rv.get hy
    have hel : e < s.heap.objs.size := Heap.lt_size he
    have hil : it < s.heap.objs.size := by obtain ⟨_, q, _⟩ := hit; exact Heap.lt_size q
    have ne1 : a ≠ it := fun z => by
      obtain ⟨o, q1, q2, _⟩ := hit
      obtain ⟨o', q3, q4, _⟩ := hT
      rw [z, q1] at q3; cases q3; rw [q2] at q4; exact absurd (Value.type.inj q4) (by decide)
    have ne2 : a ≠ e := fun z => by
      obtain ⟨o', q3, q4, _⟩ := hT
      rw [z, show s.heap.get? e = _ from he] at q3; cases q3; exact absurd (Value.type.inj q4) (by decide)
    have hiu : i < its.length := (List.getElem?_eq_some_iff.mp hu).1
    refine wpAny_pyNext_enum_itemC (Draws.tuple (A := X.A.in1) (show X.A.in1.handled = none from I.ok.hd hc) it a ne1 its.toArray) (i := i) he ⟨hit, hT⟩ (by simpa using hiu) hne (by simpa using ⟨hne, fun z => ne2 z.symm⟩) fun x h' tk hx ho st' hTn hsz hk => ?_
    obtain ⟨hit', _⟩ := st'
    obtain rfl : x = u := by
      have q : its[i]? = some x := by simpa using hx
      rw [hu] at q
      exact (Option.some.inj q).symm
    refine ⟨_, rfl, wpAny_letOwnedTupleGo_enum (s := { s with heap := h', toks := tk + 1 }) ho fun h'' he' sb => ?_⟩
    have hT2 : h''.get? s.heap.objs.size = some { cls := .type "tuple", data := .seq #[.int i tk, x] } := (sb.2 _ (Nat.ne_of_gt hel)).trans hTn
    have new : L2.ObjOk X.prog X.w (upd H s.heap.objs.size (.tup [.int (i : Nat), y])) h'' s.heap.objs.size (.tup [.int (i : Nat), y]) :=
      ⟨by show 2 ≤ sizeLine; decide, [.int i tk, x], .cons ⟨_, rfl⟩ (.cons ru .nil), ⟨_, hT2, rfl, _, rfl⟩⟩
    have I1 : Inv X pins σ (upd H s.heap.objs.size (.tup [.int (i : Nat), y])) { s with heap := h'', toks := tk + 1 } :=
      I.turnedNew (ch := [e, it]) (fun b ob hb q => (sb.2 b (fun z => hb (by simp [z]))).trans (hk b ob (fun z => hb (by simp [z])) (fun z => hb (by simp [z])) q)) hf (Nat.le_refl _) new
    refine ⟨.ref s.heap.objs.size, _, I1, rfl, ⟨_, y, rfl, I.hok.fresh (Nat.le_refl _), rfl, fun zs hzs => by rw [I.tuple_inj hzs hq]; exact hy⟩, ⟨⟨x, ?_⟩, hit'.at fun o q => (sb.2 it (Ne.symm hne)).trans q, hne⟩, fun b hb => ?_⟩
    · have e1 : ((i + 1 : Nat) : Int) = (i : Int) + 1 := by omega
      rw [e1]; exact he'
    · have hb' : b < s.heap.objs.size := by
        have e' : b = e ∨ b = it := by simpa using hb
        rcases e' with rfl | rfl
        · exact hel
        · exact hil
      rw [upd_ne (Nat.ne_of_lt hb')]
      exact (hf b hb).1
  done := by
    intro X hP hw hK hc i pins s σ H E I hf st hg
    subst hP hw hK
    obtain ⟨⟨old, he⟩, hit, hne⟩ := st
    obtain ⟨ys, hq, hle⟩ := hg
    obtain ⟨its, rv, hT, hz⟩ := I.tuple hq
    obtain ⟨f0, f1, f2, f3, f4, f5⟩ := hf it (by simp)
    have hl := rv.length
    refine pn_end (I.ok.hd hc) he hit hT (by simp; omega) fun h' eb => ⟨rfl, I.turned (t' := s.toks) (fun b o hb q => eb b o hb q) f0 f1 f3 f4 f5⟩
  self := fun A i s Q E st h => let ⟨⟨_, he⟩, _⟩ := st; wpAny_pyIter_enum he h
/-- enumerate(x), x a list or a tuple -/
def iEnB (K : Fg) (ta : TA) : TI := fun σ H R => ta σ H fun vs H1 => ∃ a, vs = [.ref a] ∧ ((∃ xs, SqL K H1 a xs ∧ R (L2.Ite K a) H1) ∨ ∃ xs, SqT K H1 a xs ∧ R (EnT K a) H1)
theorem pi_enB {X : Cx} {e : Expr} {ta : TA} {p pos tpos : Pos} {elts : List Expr} {kk : Nat} (hg : Gl X "enumerate") (hm : X.mg "enumerate" = none) (ha : PA X [e] ta) (hs : starEach [e] X.env = [(false, eval e X.env)]) :
    PI X (.Tuple elts kk tpos) (.Call (.Name "enumerate" p) [e] [] pos) (iEnB X.K ta) := by
  refine ⟨fun pins s σ H R I h => ?_⟩
  refine PyProof.Rows.Call_ (L2.ld_blt I hg hm PyProof.Rows.boot_enumerate (PyProof.Rows.callWith_type1 (L2.thn (ha.run pos pins s σ H _ I h) fun us s1 ⟨vs, H1, I1, r1, c, ex, q1⟩ => ?_) hs rfl))
  subst ex
  cases r1 with
  | cons r rr =>
    cases rr
    cases r
    have fps : ∀ b, b ∈ [s1.heap.objs.size + 1, s1.heap.objs.size] → L2.FpOk X pins H1 b := fun b hb => by
      have hle : s1.heap.objs.size ≤ b := by
        rcases (by simpa using hb : b = s1.heap.objs.size + 1 ∨ b = s1.heap.objs.size) with rfl | rfl
        · exact Nat.le_succ _
        · exact Nat.le_refl _
      exact I1.fpOk hle (I1.hok.fresh hle)
    rcases q1 with ⟨xs, hq, q⟩ | ⟨xs, hq, q⟩
    · obtain ⟨its, rv, hL, hz⟩ := I1.list hq
      refine call_enumerate_list hL.isList fun h' he hit hsz hk => wpAny_pyIter_enum he ?_
      exact ⟨s1.heap.objs.size + 1, [s1.heap.objs.size + 1, s1.heap.objs.size], _, _, H1, rfl, I1.kept (t' := s1.toks) hk, L2.turn_enum c (s1.heap.objs.size + 1) s1.heap.objs.size, ⟨⟨.none, he⟩, hit, Nat.succ_ne_self _⟩, fps, q⟩
    · obtain ⟨its, rv, hT, hz⟩ := I1.tuple hq
      refine call_enT hT fun h' he hit hk => wpAny_pyIter_enum he ?_
      exact ⟨s1.heap.objs.size + 1, [s1.heap.objs.size + 1, s1.heap.objs.size], _, _, H1, rfl, I1.kept (t' := s1.toks) hk, turn_enT c (s1.heap.objs.size + 1) s1.heap.objs.size, ⟨⟨.none, he⟩, hit, Nat.succ_ne_self _⟩, fps, q⟩
end Mi
end
section
set_option Elab.async false
set_option linter.all false
set_option maxRecDepth 100000
set_option maxHeartbeats 1000000
/-! M11: what is walked. -/
namespace Mi
open PySem
open L2 (V HO Hp upd upd_same upd_ne SqL SqT Rd Cx Inv PE PT PA PS PSs PG PGs PI TE TT TA TS TG TGs TI It VK XK Ends RelV Vals ne_of_none OpR R2 EP CallR UnR IxR SlR TruR Gl Vis Loc Itl Itt Itr)
section
variable {K : Fg} {O O' : Addr → Prop} {ρ : Nat → Addr} {σ : Sg} {H : Hp} {e : En} {st : Sr}
theorem sqL_inj {C : Cx} {pins : List (Addr × Obj)} {s : Shared} {a : Addr} {xs ys : List V} (I : Inv C pins σ H s) (h : SqL C.K H a xs) (h' : SqL C.K H a ys) : xs = ys := I.list_inj h h'
/-- a list of data, walked -/
theorem itL {a : Addr} {ds : List P} {vs : List V} (S : RelS K O ρ H st) (l : LsD K (Mt O ρ st) H a vs) (r : ReqP K (Mt O ρ st) H ds vs) : ItOk K O ρ st H (ds.map .p) (Itl K a) := by
  intro Xo O' ρ' st' H' xo w s S' i
  have l' := l.goX xo w s
  have r' := r.goX S xo w s
  refine ⟨fun v hv => ?_, fun hi => ⟨vs, l'.sq, by simpa [r.len] using hi⟩⟩
  obtain ⟨d, hd, rfl⟩ : ∃ d, ds[i]? = some d ∧ Vl.p d = v := by simpa using hv
  obtain ⟨u, h1, h2⟩ := r'.get hd
  refine ⟨⟨vs, u, l'.sq, h1⟩, fun x H'' ⟨e1, e2⟩ => ?_⟩
  subst e1
  have := e2 vs l'.sq
  rw [h1] at this
  cases this
  exact ⟨.rfl, S', h2⟩
/-- a tuple, walked -/
theorem itT {a : Addr} {ds : List P} {vs : List V} (S : RelS K O ρ H st) (l : SqT K H a vs) (r : ReqP K (Mt O ρ st) H ds vs) : ItOk K O ρ st H (ds.map .p) (Itt K a) := by
  intro Xo O' ρ' st' H' xo w s S' i
  have l' := s.tupK xo S l
  have r' := r.goX S xo w s
  refine ⟨fun v hv => ?_, fun hi => ⟨vs, l', by simpa [r.len] using hi⟩⟩
  obtain ⟨d, hd, rfl⟩ : ∃ d, ds[i]? = some d ∧ Vl.p d = v := by simpa using hv
  obtain ⟨u, h1, h2⟩ := r'.get hd
  refine ⟨⟨vs, u, l', h1⟩, fun x H'' ⟨e1, e2⟩ => ?_⟩
  subst e1
  have := e2 vs l'
  rw [h1] at this
  cases this
  exact ⟨.rfl, S', h2⟩
theorem rng_len (c : Int) : ∀ (n : Nat) (lo : Int), (rng lo c n).length = n
  | 0, _ => rfl
  | n + 1, lo => by simp [rng, rng_len c n]
theorem rng_get (c : Int) : ∀ (n : Nat) (lo : Int) (i : Nat), i < n → (rng lo c n)[i]? = some (.int (lo + i * c))
  | 0, _, _, h => by omega
  | n + 1, lo, 0, _ => by simp [rng]
  | n + 1, lo, i + 1, h => by
    simp only [rng, List.getElem?_cons_succ]
    rw [rng_get c n (lo + c) i (by omega)]
    congr 2
    rw [Int.natCast_succ, Int.add_mul]
    omega
theorem itR {lo : Int} {n : Nat} : ItOk K O ρ st H ((rng lo 1 n).map .p) (Itr lo n) := by
  intro Xo O' ρ' st' H' xo w s S' i
  refine ⟨fun v hv => ?_, fun hi => show n ≤ i by simpa [rng_len] using hi⟩
  have hi : i < n := by
    have := (List.getElem?_eq_some_iff.mp hv).1
    simpa [rng_len] using this
  obtain ⟨d, hd, rfl⟩ : ∃ d, (rng lo 1 n)[i]? = some d ∧ Vl.p d = v := by simpa using hv
  rw [rng_get 1 n lo i hi] at hd
  cases hd
  refine ⟨hi, fun x H'' ⟨e1, e2⟩ => ?_⟩
  subst e1 e2
  refine ⟨.rfl, S', ?_⟩
  rw [Int.mul_one]
  exact RepP.int _
end
section
variable {C : Cx} {W : Str → Option Addr → Hp → Prop} {a b c : Expr} {es : List Expr} {fa fb fc : En → Sr → R Vl} {fs : En → Sr → R (List Vl)} {pos : Pos} {tg : Expr}
theorem iPlain (ha : PE C a (TrE C.K W fa)) : PI C tg a (TrI C.K W fun e s => (fa e s).bd fun v s => itOf v s) := by
  refine ⟨fun pins s σ H Q I ⟨O, ρ, e, st, R, h⟩ => ?_⟩
  have fin : ∀ {t : TI}, PI C tg a t → t σ H Q → wpAny (model C.prog C.w) C.A (eval a C.env) (fun v s1 => wpAny (model C.prog C.w) C.A (pyIter v) (L2.PIE C pins σ tg Q) C.xe s1) C.xe s := fun p q => p.run pins s σ H Q I q
  dsimp only at h
  cases q : fa e st with
  | no => rw [q] at h; exact h.elim
  | ex c x s' => exact fin (L2.pi_list ha) ⟨O, ρ, e, st, R, by rw [q] at h ⊢; exact h⟩
  | ok v st' =>
    have h' : End C.K W O (RpI C.K O) ρ st H (itOf v st') fun J H' => Q J H' := by rw [q] at h; exact h
    cases v with
    | r n =>
      have hnd : isDp st' n = false := by
        cases z : isDp st' n with
        | false => rfl
        | true =>
          have : itOf (.r n) st' = .no := if_pos z
          rw [this] at h'; exact h'.elim
      have h' : End C.K W O (RpI C.K O) ρ st H (.ok (.inr n) st') fun J H' => Q J H' := by
        have : itOf (.r n) st' = .ok (.inr n) st' := if_neg (by rw [hnd]; simp)
        rw [this] at h'; exact h'
      refine fin (L2.pi_list ha) ⟨O, ρ, e, st, R, ?_⟩
      rw [q]
      intro ρ1 H1 x s1 S1 r1
      obtain ⟨hn, rfl⟩ := r1
      obtain ⟨w, f1, f2⟩ := S1.ob n st'[n] (by simp [hn])
      refine ⟨_, rfl, ?_, h' ρ1 H1 _ s1 S1 ⟨hn, rfl⟩⟩
      cases q : st'[n] with
      | lp z xs => rw [q] at f2; obtain ⟨vs, rfl, _⟩ := f2; exact ⟨vs, .of f1⟩
      | lr xs => rw [q] at f2; obtain ⟨rfl, _⟩ := f2; exact ⟨_, .of f1⟩
      | dp z kvs =>
        have e : st'[n]? = some (.dp z kvs) := by rw [← q]; simp [hn]
        simp [e] at hnd
      | no => rw [q] at f2; exact f2.elim
    | p d =>
      cases d with
      | list ds =>
        refine fin (L2.pi_list ha) ⟨O, ρ, e, st, R, ?_⟩
        rw [q]
        intro ρ1 H1 x s1 S1 r1
        obtain ⟨a', vs, rfl, l, rr⟩ := RepP.lst_inv r1
        exact ⟨a', rfl, ⟨vs, l.sq⟩, h' ρ1 H1 _ s1 S1 (itL S1 l rr)⟩
      | tuple ds =>
        refine fin (L2.pi_tup ha) ⟨O, ρ, e, st, R, ?_⟩
        rw [q]
        intro ρ1 H1 x s1 S1 r1
        obtain ⟨a', vs, rfl, l, rr⟩ := RepP.tup_inv r1
        exact ⟨a', rfl, ⟨vs, l⟩, h' ρ1 H1 _ s1 S1 (itT S1 l rr)⟩
      | _ => exact h'.elim
theorem two62 : (2 : Int) ^ 62 = 4611686018427387904 := by decide
theorem rd_of {K : Fg} {m : Addr → Prop} {H : Hp} : ∀ {as : List P} {xs : List V}, RdPs K m H as xs → as.length = xs.length
  | _, _, .nil => rfl
  | _, _, .cons _ r => by simp [rd_of r]
theorem itRC {lo c : Int} {n : Nat} : ItOk K O ρ st H ((rng lo c n).map .p) (L2.Itc lo c n) := by
  intro Xo O' ρ' st' H' xo w s S' i
  refine ⟨fun v hv => ?_, fun hi => show n ≤ i by simpa [rng_len] using hi⟩
  have hi : i < n := by
    have := (List.getElem?_eq_some_iff.mp hv).1
    simpa [rng_len] using this
  obtain ⟨d, hd, rfl⟩ : ∃ d, (rng lo c n)[i]? = some d ∧ Vl.p d = v := by simpa using hv
  rw [rng_get c n lo i hi] at hd
  cases hd
  refine ⟨hi, fun x H'' ⟨e1, e2⟩ => ?_⟩
  subst e1 e2
  exact ⟨.rfl, S', .int _⟩
theorem rgC {a b c : Int} (h : -1000000 < a ∧ a < 1000000 ∧ -1000000 < b ∧ b < 1000000 ∧ 0 < c ∧ c < 1000000) : L2.RgC a b c (if a < b then (b - a - 1) / c + 1 else 0).toNat := by
  have q : 0 ≤ (if a < b then (b - a - 1) / c + 1 else 0) ∧ (if a < b then (b - a - 1) / c + 1 else 0) ≤ 2000000 := by
    split
    · have h1 := Int.ediv_nonneg (show 0 ≤ b - a - 1 by omega) (show 0 ≤ c by omega)
      have h2 := Int.ediv_le_self c (show 0 ≤ b - a - 1 by omega)
      omega
    · omega
  have e : Builtin.Range.rangeSize a b c = if a < b then (b - a - 1) / c + 1 else 0 := by
    unfold Builtin.Range.rangeSize
    rw [if_pos (show c > 0 by omega)]
  refine ⟨by omega, by omega, ?_, by rw [e, Int.toNat_of_nonneg q.1]⟩
  unfold Builtin.Range.small
  rw [e]
  simp only [Builtin.Range.rangeFitsLong, Bool.and_eq_true, Bool.or_eq_true, decide_eq_true_eq, beq_iff_eq]
  generalize (if a < b then (b - a - 1) / c + 1 else 0) = n at *
  rw [if_pos (show c > 0 by omega)]
  simp only [Bool.and_eq_true, decide_eq_true_eq]
  omega
theorem iRg1 {T0 : T} {p : Pos} (hg : Gl C "range") (hm : C.mg "range" = none) (ha : PA C [toE T0] (TrA C.K W fs)) (hl : ∀ e s xs s', fs e s = .ok xs s' → xs.length = 1) :
    PI C tg (.Call (.Name "range" p) [toE T0] [] pos) (TrI C.K W fun e s => (fs e s).bd fun vs s => R.of (((ddL vs s).bind rgP).map fun xs => .inl (xs.map .p)) s) :=
  imI (L2.pi_range1 hg hm ha (star_cons _ _ _)) fun σ H Q ⟨O, ρ, e, st, R, h⟩ => ⟨O, ρ, e, st, R, End.bd R.S h fun x st1 ρ1 H1 v q s1 S1 r1 h1 => by
    have hx := hl _ _ _ _ q
    cases q1 : ddL x st1 with
    | none => rw [q1] at h1; exact h1.elim
    | some as =>
      rw [q1, Option.bind_some] at h1
      have rd := ddL_rd S1 r1 q1
      have l1 := rd_of rd
      have l2 := r1.len
      match as, rd, h1, l1 with
      | [], rd, _, l1 => simp at l1; omega
      | _ :: _ :: _, rd, _, l1 => simp at l1; omega
      | [d], rd, h1, _ =>
        obtain ⟨y, rfl, hy⟩ := RdPs.one (C := C) rd
        cases d with
        | int n =>
          simp only [rgP] at h1
          split at h1
          · rename_i hn
            have t := two62
            exact ⟨n, by rw [hy.int], by rw [t]; exact hn.1, by rw [t]; exact hn.2, h1.at S1 itR⟩
          · exact h1.elim
        | _ => exact h1.elim⟩
theorem iRg2 {T0 T1 : T} {p : Pos} (hg : Gl C "range") (hm : C.mg "range" = none) (ha : PA C [toE T0, toE T1] (TrA C.K W fs)) (hl : ∀ e s xs s', fs e s = .ok xs s' → xs.length = 2) :
    PI C tg (.Call (.Name "range" p) [toE T0, toE T1] [] pos) (TrI C.K W fun e s => (fs e s).bd fun vs s => R.of (((ddL vs s).bind rgP).map fun xs => .inl (xs.map .p)) s) :=
  imI (L2.pi_range2 hg hm ha (by rw [star_cons, star_cons]; rfl) (star_cons _ _ _)) fun σ H Q ⟨O, ρ, e, st, R, h⟩ => ⟨O, ρ, e, st, R, End.bd R.S h fun x st1 ρ1 H1 v q s1 S1 r1 h1 => by
    have hx := hl _ _ _ _ q
    cases q1 : ddL x st1 with
    | none => rw [q1] at h1; exact h1.elim
    | some as =>
      rw [q1, Option.bind_some] at h1
      have rd := ddL_rd S1 r1 q1
      have l1 := rd_of rd
      have l2 := r1.len
      match as, rd, h1, l1 with
      | [], rd, _, l1 => simp at l1; omega
      | [_], rd, _, l1 => simp at l1; omega
      | _ :: _ :: _ :: _, rd, _, l1 => simp at l1; omega
      | [d, d'], rd, h1, _ =>
        obtain ⟨y, y', rfl, hy, hy'⟩ := RdPs.two (C := C) rd
        cases d with
        | int n =>
          cases d' with
          | int n' =>
            simp only [rgP] at h1
            split at h1
            · rename_i hn
              have t := two62
              exact ⟨n, n', by rw [hy.int, hy'.int], ⟨by rw [t]; exact hn.1.1, by rw [t]; exact hn.1.2, by rw [t]; exact hn.2.1, by rw [t]; exact hn.2.2⟩, h1.at S1 itR⟩
            · exact h1.elim
          | _ => exact h1.elim
        | _ => exact h1.elim⟩
theorem iRg3 {T0 T1 T2 : T} {p : Pos} (hg : Gl C "range") (hm : C.mg "range" = none) (ha : PA C [toE T0, toE T1, toE T2] (TrA C.K W fs)) (hl : ∀ e s xs s', fs e s = .ok xs s' → xs.length = 3) :
    PI C tg (.Call (.Name "range" p) [toE T0, toE T1, toE T2] [] pos) (TrI C.K W fun e s => (fs e s).bd fun vs s => R.of (((ddL vs s).bind rgP).map fun xs => .inl (xs.map .p)) s) :=
  imI (L2.pi_range3 hg hm ha (star_cons _ _ _) (by rw [star_cons, star_cons]; rfl)) fun σ H Q ⟨O, ρ, e, st, R, h⟩ => ⟨O, ρ, e, st, R, End.bd R.S h fun x st1 ρ1 H1 v q s1 S1 r1 h1 => by
    have hx := hl _ _ _ _ q
    cases q1 : ddL x st1 with
    | none => rw [q1] at h1; exact h1.elim
    | some as =>
      rw [q1, Option.bind_some] at h1
      have rd := ddL_rd S1 r1 q1
      have l1 := rd_of rd
      have l2 := r1.len
      match as, rd, h1, l1 with
      | [], rd, _, l1 => simp at l1; omega
      | [_], rd, _, l1 => simp at l1; omega
      | [_, _], rd, _, l1 => simp at l1; omega
      | _ :: _ :: _ :: _ :: _, rd, _, l1 => simp at l1; omega
      | [d, d', d''], rd, h1, _ =>
        cases rd with
        | cons hy rr =>
          obtain ⟨y', y'', rfl, hy', hy''⟩ := RdPs.two (C := C) rr
          cases d with
          | int n => cases d' with
            | int n' => cases d'' with
              | int n'' =>
                simp only [rgP] at h1
                split at h1
                · rename_i hn
                  exact ⟨n, n', n'', _, by rw [hy.int, hy'.int, hy''.int], rgC hn, h1.at S1 itRC⟩
                · exact h1.elim
              | _ => exact h1.elim
            | _ => exact h1.elim
          | _ => exact h1.elim⟩
theorem enum_get : ∀ (xs : List P) (k i : Nat), (enumP k xs)[i]? = (xs[i]?).map fun x => .p (.tuple [.int ((k + i : Nat) : Int), x])
  | [], _, _ => by simp [enumP]
  | x :: r, k, 0 => by simp [enumP]
  | x :: r, k, i + 1 => by
    simp only [enumP, List.getElem?_cons_succ]
    rw [enum_get r (k + 1) i, show k + 1 + i = k + (i + 1) by omega]
theorem enum_len : ∀ (xs : List P) (k : Nat), (enumP k xs).length = xs.length
  | [], _ => rfl
  | x :: r, k => by simp [enumP, enum_len r]
theorem zip_get : ∀ (xs ys : List P) (i : Nat) (v : Vl), (zipP xs ys)[i]? = some v → ∃ x y, xs[i]? = some x ∧ ys[i]? = some y ∧ v = .p (.tuple [x, y])
  | [], _, _, _, h => by simp [zipP] at h
  | _ :: _, [], _, _, h => by simp [zipP] at h
  | x :: r, y :: q, 0, v, h => by simp [zipP] at h; exact ⟨x, y, rfl, rfl, h.symm⟩
  | x :: r, y :: q, i + 1, v, h => by
    simp only [zipP, List.getElem?_cons_succ] at h
    exact zip_get r q i v h
theorem zip_len : ∀ (xs ys : List P) (i : Nat), (zipP xs ys).length ≤ i → xs.length ≤ i ∨ ys.length ≤ i
  | [], _, _, _ => .inl (by simp)
  | _ :: _, [], _, _ => .inr (by simp)
  | x :: r, y :: q, 0, h => by simp [zipP] at h
  | x :: r, y :: q, i + 1, h => by
    have := zip_len r q i (by simpa [zipP] using h)
    simpa using this
section
variable {K : Fg} {O O' : Addr → Prop} {ρ : Nat → Addr} {σ : Sg} {H : Hp} {e : En} {st : Sr}
theorem itE {a : Addr} {ds : List P} {vs : List V} (S : RelS K O ρ H st) (l : LsD K (Mt O ρ st) H a vs) (r : ReqP K (Mt O ρ st) H ds vs) : ItOk K O ρ st H (enumP 0 ds) (L2.Ite K a) := by
  intro Xo O' ρ' st' H' xo w s S' i
  have l' := l.goX xo w s
  have r' := r.goX S xo w s
  refine ⟨fun v hv => ?_, fun hi => ⟨vs, l'.sq, by simpa [r.len, enum_len] using hi⟩⟩
  rw [enum_get] at hv
  obtain ⟨d, hd, rfl⟩ := Option.map_eq_some_iff.mp hv
  obtain ⟨u, h1, h2⟩ := r'.get hd
  refine ⟨⟨vs, u, l'.sq, h1⟩, fun x H'' ⟨T, y, e1, e2, e3, e4⟩ => ?_⟩
  subst e1 e3
  have := e4 vs l'.sq
  rw [h1] at this
  cases this
  refine ⟨Stp.new S' e2, S'.new e2, ?_⟩
  exact rep_newT S' e2 (.cons (by rw [Nat.zero_add]; exact .int _) (.cons h2 .nil))
theorem itET {a : Addr} {ds : List P} {vs : List V} (S : RelS K O ρ H st) (l : SqT K H a vs) (r : ReqP K (Mt O ρ st) H ds vs) : ItOk K O ρ st H (enumP 0 ds) (EnT K a) := by
  intro Xo O' ρ' st' H' xo w s S' i
  have l' := s.tupK xo S l
  have r' := r.goX S xo w s
  refine ⟨fun v hv => ?_, fun hi => ⟨vs, l', by simpa [r.len, enum_len] using hi⟩⟩
  rw [enum_get] at hv
  obtain ⟨d, hd, rfl⟩ := Option.map_eq_some_iff.mp hv
  obtain ⟨u, h1, h2⟩ := r'.get hd
  refine ⟨⟨vs, u, l', h1⟩, fun x H'' ⟨T, y, e1, e2, e3, e4⟩ => ?_⟩
  subst e1 e3
  have := e4 vs l'
  rw [h1] at this
  cases this
  refine ⟨Stp.new S' e2, S'.new e2, ?_⟩
  exact rep_newT S' e2 (.cons (by rw [Nat.zero_add]; exact .int _) (.cons h2 .nil))
theorem itZ {a b : Addr} {ds es : List P} {vs us : List V} (S : RelS K O ρ H st) (l : LsD K (Mt O ρ st) H a vs) (r : ReqP K (Mt O ρ st) H ds vs) (l2 : LsD K (Mt O ρ st) H b us) (r2 : ReqP K (Mt O ρ st) H es us) : ItOk K O ρ st H (zipP ds es) (L2.Itz K a b) := by
  intro Xo O' ρ' st' H' xo w s S' i
  have l' := l.goX xo w s
  have r' := r.goX S xo w s
  have l2' := l2.goX xo w s
  have r2' := r2.goX S xo w s
  refine ⟨fun v hv => ?_, fun hi => ⟨vs, us, l'.sq, l2'.sq, by rw [← r.len, ← r2.len]; exact zip_len _ _ _ hi⟩⟩
  obtain ⟨d, d2, hd, hd2, rfl⟩ := zip_get _ _ _ _ hv
  obtain ⟨u, h1, h2⟩ := r'.get hd
  obtain ⟨u2, h3, h4⟩ := r2'.get hd2
  refine ⟨⟨vs, us, u, u2, l'.sq, l2'.sq, h1, h3⟩, fun x H'' ⟨T, y, y2, e1, e2, e3, e4, e5⟩ => ?_⟩
  subst e1 e3
  have t1 := e4 vs l'.sq
  have t2 := e5 us l2'.sq
  rw [h1] at t1
  rw [h3] at t2
  cases t1
  cases t2
  exact ⟨Stp.new S' e2, S'.new e2, rep_newT S' e2 (.cons h2 (.cons h4 .nil))⟩
theorem itZT {a b : Addr} {ds es : List P} {vs us : List V} (S : RelS K O ρ H st) (l : SqT K H a vs) (r : ReqP K (Mt O ρ st) H ds vs) (l2 : SqT K H b us) (r2 : ReqP K (Mt O ρ st) H es us) : ItOk K O ρ st H (zipP ds es) (RZ.ItzT K a b) := by
  intro Xo O' ρ' st' H' xo w s S' i
  have l' := s.tupK xo S l
  have r' := r.goX S xo w s
  have l2' := s.tupK xo S l2
  have r2' := r2.goX S xo w s
  refine ⟨fun v hv => ?_, fun hi => ⟨vs, us, l', l2', by rw [← r.len, ← r2.len]; exact zip_len _ _ _ hi⟩⟩
  obtain ⟨d, d2, hd, hd2, rfl⟩ := zip_get _ _ _ _ hv
  obtain ⟨u, h1, h2⟩ := r'.get hd
  obtain ⟨u2, h3, h4⟩ := r2'.get hd2
  refine ⟨⟨vs, us, u, u2, l', l2', h1, h3⟩, fun x H'' ⟨T, y, y2, e1, e2, e3, e4, e5⟩ => ?_⟩
  subst e1 e3
  have t1 := e4 vs l'
  have t2 := e5 us l2'
  rw [h1] at t1
  rw [h3] at t2
  cases t1
  cases t2
  exact ⟨Stp.new S' e2, S'.new e2, rep_newT S' e2 (.cons h2 (.cons h4 .nil))⟩
end
theorem iEnu {T0 : T} {p tpos : Pos} {elts : List Expr} {kk : Nat} (hg : Gl C "enumerate") (hm : C.mg "enumerate" = none) (ha : PA C [toE T0] (TrA C.K W fs)) :
    PI C (.Tuple elts kk tpos) (.Call (.Name "enumerate" p) [toE T0] [] pos) (TrI C.K W fun e s => (fs e s).bd fun vs s => R.of (enV vs) s) :=
  imI (pi_enB hg hm ha (star_cons _ _ _)) fun σ H Q ⟨O, ρ, e, st, R, h⟩ => ⟨O, ρ, e, st, R, End.bd R.S h fun x st1 ρ1 H1 v q s1 S1 r1 h1 => by
    unfold enV at h1
    split at h1
    · rename_i ds
      cases r1 with
      | cons r rr =>
        cases rr
        obtain ⟨a', vs, rfl, l, rr⟩ := RepP.lst_inv r
        exact ⟨a', rfl, .inl ⟨vs, l.sq, h1.at S1 (itE S1 l rr)⟩⟩
    · rename_i ds
      cases r1 with
      | cons r rr =>
        cases rr
        obtain ⟨a', vs, rfl, l, rr⟩ := RepP.tup_inv r
        exact ⟨a', rfl, .inr ⟨vs, l, h1.at S1 (itET S1 l rr)⟩⟩
    · exact h1.elim⟩
theorem iZip {T0 T1 : T} {p tpos : Pos} {elts : List Expr} {kk : Nat} (hg : Gl C "zip") (hm : C.mg "zip" = none) (ha : PA C [toE T0, toE T1] (TrA C.K W fs)) :
    PI C (.Tuple elts kk tpos) (.Call (.Name "zip" p) [toE T0, toE T1] [] pos) (TrI C.K W fun e s => (fs e s).bd fun vs s => R.of (zpV vs) s) :=
  imI (RZ.pi_zipA hg hm ha (star_cons _ _ _) (by rw [back_any, star_cons]; rfl)) fun σ H Q ⟨O, ρ, e, st, R, h⟩ => ⟨O, ρ, e, st, R, End.bd R.S h fun x st1 ρ1 H1 v q s1 S1 r1 h1 => by
    unfold zpV at h1
    split at h1
    · rename_i ds es
      cases r1 with
      | cons r rr =>
        cases rr with
        | cons r' rr =>
          cases rr
          obtain ⟨a', vs, rfl, l, rr⟩ := RepP.lst_inv r
          obtain ⟨a2, vs2, rfl, l2, rr2⟩ := RepP.lst_inv r'
          exact ⟨a', a2, vs, vs2, rfl, .inl ⟨l.sq, l2.sq, h1.at S1 (itZ S1 l rr l2 rr2)⟩⟩
    · rename_i ds es
      cases r1 with
      | cons r rr =>
        cases rr with
        | cons r' rr =>
          cases rr
          obtain ⟨a', vs, rfl, l, rr⟩ := RepP.tup_inv r
          obtain ⟨a2, vs2, rfl, l2, rr2⟩ := RepP.tup_inv r'
          exact ⟨a', a2, vs, vs2, rfl, .inr ⟨l, l2, h1.at S1 (itZT S1 l rr l2 rr2)⟩⟩
    · exact h1.elim⟩
end
end Mi
end
section
set_option Elab.async false
set_option linter.all false
set_option maxRecDepth 100000
set_option maxHeartbeats 2000000
/-! N1: list(range(..)), len(set(..)), remove, enumerate of a tuple. -/
namespace Mi
open PySem PyProof.Rows
open L2 (V HO Hp upd upd_same upd_ne SqL SqT Rd Cx Inv PE PT PA PS PSs PG PGs PI TE TT TA TS TG TGs TI It VK XK Ends RelV Vals ne_of_none OpR R2 EP CallR UnR IxR SlR TruR Gl Vis Loc)
/-! ### list(range(..)) -/
theorem req_rng {K : Fg} {m : Addr → Prop} {H : Hp} : ∀ (n : Nat) (a : Int), ReqP K m H (rng a 1 n) ((List.range n).map fun i => V.int (a + (i : Nat)))
  | 0, _ => .nil
  | n + 1, a => by
    rw [List.range_succ_eq_map, List.map_cons, List.map_map]
    have h := req_rng (K := K) (m := m) (H := H) n (a + 1)
    have e : ((fun i : Nat => V.int (a + (i : Nat))) ∘ Nat.succ) = fun i : Nat => V.int (a + 1 + (i : Nat)) := by
      funext i
      show V.int _ = V.int _
      congr 1
      simp only [Nat.succ_eq_add_one]
      omega
    rw [e, show a + ((0 : Nat) : Int) = a by omega]
    exact .cons (.int a) h
section
variable {C : Cx} {W : Str → Option Addr → Hp → Prop} {a b c : Expr} {es : List Expr} {fa fb fc : En → Sr → R Vl} {fs : En → Sr → R (List Vl)} {pos : Pos} {tg : Expr}
theorem reqI {K : Fg} {m : Addr → Prop} {H : Hp} : ∀ (l : List Int), ReqP K m H (l.map PyData.int) (l.map V.int)
  | [] => .nil
  | i :: l => .cons (.int i) (reqI l)
theorem rg_cases {as : List P} {ys : List P} (hl : ¬ as.length = 3) (h : rgP as = some ys) : ∃ lo hi : Int, (as = [.int hi] ∧ lo = 0 ∨ as = [.int lo, .int hi]) ∧ Sm62 lo ∧ Sm62 hi ∧ ys = rng lo 1 (hi - lo).toNat := by
  unfold rgP at h
  split at h
  · rename_i n
    split at h
    · rename_i q
      cases h
      exact ⟨0, n, .inl ⟨rfl, rfl⟩, by unfold Sm62; omega, q, by rw [Int.sub_zero]⟩
    · cases h
  · rename_i lo hi
    split at h
    · rename_i q
      cases h
      exact ⟨lo, hi, .inr rfl, q.1, q.2, rfl⟩
    · cases h
  · exact absurd rfl hl
  · cases h
theorem xLrg {T0 T1 : T} {p0 p1 p2 : Pos} (hc : C.calm = true) (hg : Gl C "list") (hm : C.mg "list" = none) (hg2 : Gl C "range") (hm2 : C.mg "range" = none) (hs : ns T1 = true) (ha : PA C (toE T0 :: toEs T1) (TrA C.K W fs)) :
    PE C (.Call (.Name "list" p0) [.Call (.Name "range" p1) (toE T0 :: toEs T1) [] p2] [] pos) (TrE C.K W fun e s => opL lrgP (fs e s)) := by
  refine ⟨fun pins s σ H Q I ⟨O, ρ, e, st, R, h⟩ => ?_⟩
  have go : ∀ (lo hi : Int) (s1 : Shared) (H1 : Hp) (r : Addr) (t u v : Tok), PySem.IsRange s1.heap r lo hi 1 t u v → Inv C pins σ H1 s1 → Sm62 lo → Sm62 hi → (hi - lo).toNat ≤ lim → (∀ q, H1 q = none → Q (.ref q) (upd H1 q (.lst (L2.rgV lo hi)))) →
      wpAny (model C.prog C.w) C.A (call (.type "list") [.ref r]) (EP C pins σ Q) C.xe s1 := fun lo hi s1 H1 r t u v hr I1 b1 b2 b3 q => by
    unfold Sm62 at b1 b2
    have b4 : (hi - lo).toNat ≤ 1000000 := b3
    refine call_list_range (n := (hi - lo).toNat) (I1.ok.hd hc) hr (small_one (by omega) (by omega) (by omega) (by omega)) (PyProof.Rows.rangeSize_nat lo hi) (by omega) fun h' tk acc c' hk e' hi' => ?_
    have fr : H1 s1.heap.objs.size = none := I1.hok.fresh (Nat.le_refl _)
    refine ⟨.ref s1.heap.objs.size, upd H1 s1.heap.objs.size (.lst (L2.rgV lo hi)), I1.laid hk (Nat.le_refl _) (show L2.ObjOk C.prog C.w _ _ _ (.lst (L2.rgV lo hi)) from ⟨?_, acc.toList, c', L2.vals_rg hi', ?_⟩), rfl, q _ fr⟩
    · rw [L2.rgV_length, sizeLine_eq]; omega
    · rw [Array.toArray_toList]; exact e'
  refine PyProof.Rows.Call_ (L2.ld_blt I hg hm PyProof.Rows.boot_list (PyProof.Rows.callWith_type1 (PyProof.Rows.args_cons ?_ rfl) rfl rfl))
  refine PyProof.Rows.Call_ (L2.ld_blt I hg2 hm2 PyProof.Rows.boot_range ?_)
  refine PyProof.Rows.callWith_type1 (L2.thn (ha.run p2 pins s σ H (fun vs H1 => ∃ lo hi : Int, (vs = [.int hi] ∧ lo = 0 ∨ vs = [.int lo, .int hi]) ∧ Sm62 lo ∧ Sm62 hi ∧ (hi - lo).toNat ≤ lim ∧ ∀ q, H1 q = none → Q (.ref q) (upd H1 q (.lst (L2.rgV lo hi)))) I ⟨O, ρ, e, st, R, End.bd R.S h fun xs st1 ρ1 H1 vs _ s1 S1 r1 h1 => ?_⟩) fun us s1 ⟨vs, H1, I1, r1, lo, hi, q1, b1, b2, b3, q⟩ => ?_) (star_cons _ _ _) (by rw [back_any]; exact ns_star _ hs _)
  · split at h1
    · rename_i as e1
      split at h1
      · rename_i d e3
        have rd := ddL_rd S1 r1 e1
        unfold lrgP at e3
        split at e3
        · cases e3
        rename_i h3
        rw [Option.bind_eq_some_iff] at e3
        obtain ⟨ys, e3, e4⟩ := e3
        split at e4
        · rename_i hlen
          cases e4
          obtain ⟨lo, hi, q1, b1, b2, rfl⟩ := rg_cases h3 e3
          rw [rng_len] at hlen
          refine ⟨lo, hi, ?_, b1, b2, hlen, fun q hq => h1 ρ1 _ _ (Stp.new S1 hq) (S1.new hq) (rep_newL S1 hq (req_rng _ _))⟩
          rcases q1 with ⟨rfl, rfl⟩ | rfl
          · obtain ⟨y, rfl, hy⟩ := RdPs.one (C := C) rd
            exact .inl ⟨by rw [hy.int], rfl⟩
          · obtain ⟨y, z, rfl, hy, hz⟩ := RdPs.two (C := C) rd
            exact .inr (by rw [hy.int, hz.int])
        · cases e4
      · exact h1.elim
    · exact h1.elim
  · rcases q1 with ⟨rfl, rfl⟩ | rfl
    · cases r1 with
      | cons r rr =>
        cases rr
        obtain ⟨t, rfl⟩ := r
        refine call_range_1 (PyProof.Rows.args_nil (go 0 hi _ H1 _ _ _ _ (IsRange.new _ _ _ _ _ _ _) (I1.kept fun b u e => Heap.get?_push_of_some _ e) b1 b2 b3 q))
    · cases r1 with
      | cons r rr =>
        cases rr with
        | cons r' rr =>
          cases rr
          obtain ⟨t, rfl⟩ := r
          obtain ⟨t', rfl⟩ := r'
          refine call_range_2 (PyProof.Rows.args_nil (go lo hi _ H1 _ _ _ _ (IsRange.new _ _ _ _ _ _ _) (I1.kept fun b u e => Heap.get?_push_of_some _ e) b1 b2 b3 q))
/-! ### len(set(..)) -/
theorem len_le_of_sub : ∀ {l m : List Int}, l.Nodup → (∀ x ∈ l, x ∈ m) → l.length ≤ m.length
  | [], _, _, _ => Nat.zero_le _
  | x :: l, m, nd, h => by
    obtain ⟨n1, n2⟩ := List.nodup_cons.mp nd
    have hx := h x List.mem_cons_self
    have ih := len_le_of_sub (l := l) (m := m.erase x) n2 fun y hy => by
      have hy2 := h y (List.mem_cons_of_mem _ hy)
      have ne : y ≠ x := fun e => n1 (e ▸ hy)
      exact (List.mem_erase_of_ne ne).mpr hy2
    have := List.length_erase_of_mem hx
    have : 0 < m.length := List.length_pos_of_mem hx
    simp only [List.length_cons]
    omega
theorem mem_dst : ∀ {ns : List Int} {x : Int}, x ∈ dst ns ↔ x ∈ ns
  | [], x => by simp [dst]
  | y :: r, x => by
    unfold dst
    split
    · rename_i h
      rw [mem_dst, List.mem_cons]
      exact ⟨.inr, fun q => q.elim (fun e => e ▸ h) id⟩
    · rw [List.mem_cons, List.mem_cons, mem_dst]
theorem nodup_dst : ∀ (ns : List Int), (dst ns).Nodup
  | [] => List.nodup_nil
  | y :: r => by
    unfold dst
    split
    · exact nodup_dst r
    · rename_i h
      exact List.nodup_cons.mpr ⟨fun q => h (mem_dst.mp q), nodup_dst r⟩
theorem dst_len {l ns : List Int} (nd : l.Nodup) (h : ∀ x, x ∈ l ↔ x ∈ ns) : l.length = (dst ns).length :=
  Nat.le_antisymm (len_le_of_sub nd fun x hx => mem_dst.mpr ((h x).mp hx)) (len_le_of_sub (nodup_dst ns) fun x hx => (h x).mpr (mem_dst.mp hx))
theorem met_nodup (val : Nat → Int) : ∀ i, (PyProof.Rows.firstMet val i).Nodup ∧ ∀ x, x ∈ PyProof.Rows.firstMet val i ↔ ∃ j, j < i ∧ val j = x
  | 0 => by simp [PyProof.Rows.firstMet_zero]
  | i + 1 => by
    obtain ⟨h1, h2⟩ := met_nodup val i
    rw [PyProof.Rows.firstMet_succ]
    unfold PyProof.Rows.step_dedup
    split
    · rename_i q
      obtain ⟨y, hy, e⟩ := List.any_eq_true.mp q
      have e := eq_of_beq e
      subst e
      refine ⟨h1, fun x => ?_⟩
      rw [h2]
      refine ⟨fun ⟨j, hj, e⟩ => ⟨j, by omega, e⟩, fun ⟨j, hj, e9⟩ => ?_⟩
      by_cases hji : j = i
      · subst hji
        rw [← e9]
        exact (h2 _).mp hy
      · exact ⟨j, by omega, e9⟩
    · rename_i q
      have nin : val i ∉ PyProof.Rows.firstMet val i := fun hm => q (List.any_eq_true.mpr ⟨_, hm, beq_self_eq_true _⟩)
      refine ⟨?_, fun x => ?_⟩
      · rw [List.nodup_append]
        exact ⟨h1, List.nodup_cons.mpr ⟨by simp, List.nodup_nil⟩, fun a ha b hb => by
          rw [List.mem_singleton] at hb
          subst hb
          exact fun e => nin (e ▸ ha)⟩
      · rw [List.mem_append, h2, List.mem_singleton]
        refine ⟨fun h => h.elim (fun ⟨j, hj, e⟩ => ⟨j, by omega, e⟩) fun e => ⟨i, by omega, e.symm⟩, fun ⟨j, hj, e⟩ => ?_⟩
        by_cases hji : j = i
        · subst hji; exact .inr e.symm
        · exact .inl ⟨j, by omega, e⟩
theorem met_len (ns : List Int) : (PyProof.Rows.firstMet (fun i => ns.getD i 0) ns.length).length = (dst ns).length := by
  obtain ⟨h1, h2⟩ := met_nodup (fun i => ns.getD i 0) ns.length
  refine dst_len h1 fun x => ?_
  rw [h2]
  constructor
  · rintro ⟨j, hj, rfl⟩
    show ns.getD j 0 ∈ ns
    rw [List.getD_eq_getElem?_getD, List.getElem?_eq_getElem hj]
    exact List.getElem_mem hj
  · intro h
    obtain ⟨j, hj, e⟩ := List.getElem_of_mem h
    refine ⟨j, hj, ?_⟩
    show ns.getD j 0 = x
    rw [List.getD_eq_getElem?_getD, List.getElem?_eq_getElem hj]
    exact e
theorem dst_le (ns : List Int) : (dst ns).length ≤ ns.length := len_le_of_sub (nodup_dst ns) fun x hx => mem_dst.mp hx
theorem xSet0 {T0 : T} {p0 p1 p2 : Pos} (hc : C.calm = true) (hg : Gl C "len") (hm : C.mg "len" = none) (hg2 : Gl C "set") (hm2 : C.mg "set" = none) (ha : PE C (toE T0) (TrE C.K W fa)) :
    PE C (.Call (.Name "len" p0) [.Call (.Name "set" p1) [toE T0] [] p2] [] pos) (TrE C.K W fun e s => op1 (sbP false) (fa e s)) := by
  refine ⟨fun pins s σ H Q I ⟨O, ρ, e, st, R, h⟩ => ?_⟩
  refine PyProof.Rows.Call_ (L2.ld_blt I hg hm PySem.boot_len (PyProof.Rows.callWith_builtin1 (PyProof.Rows.args_cons ?_ rfl) rfl rfl))
  refine PyProof.Rows.Call_ (L2.ld_blt I hg2 hm2 PyProof.Rows.boot_set ?_)
  refine PyProof.Rows.callWith_type1 (PyProof.Rows.args_cons (L2.thn (ha.run pins s σ H (fun x H1 => ∃ (m : Addr → Prop) (d c : P), sbP false d = some c ∧ RdP C.K m H1 d x ∧ ∀ v, (∀ m H, RepP C.K m H c v) → Q v H1) I ⟨O, ρ, e, st, R, End.bd R.S h fun x st1 ρ1 H1 v _ s1 S1 r1 h1 => ?_⟩) fun v s1 ⟨x, H1, I1, r1, m, d, c, e1, rd, q⟩ => PyProof.Rows.args_nil ?_) (star_cons _ _ _)) (star_cons _ _ _) rfl
  · split at h1
    · rename_i p e1
      split at h1
      · rename_i c e3
        exact ⟨_, p, c, e3, dd_rd S1 r1 e1, fun v hv => h1 ρ1 H1 v (.rfl) S1 (hv _ _)⟩
      · exact h1.elim
    · exact h1.elim
  · unfold sbP at e1
    split at e1
    · rename_i ns e2
      rw [Option.bind_eq_some_iff] at e2
      obtain ⟨ds, e2, e3⟩ := e2
      split at e1
      · rename_i hn
        cases e1
        have fin : ∀ (h' : Heap) (tk : Nat) (o : Obj) (es : Array (Int × Value)) (ep : Nat) (t : SetTable), h'.get? s1.heap.objs.size = some o → o.ExactSet → o.data = .set es ep t → t.fits es.size = true → es.size = (dst ns).length → (∀ b o, s1.heap.get? b = some o → h'.get? b = some o) →
            wpAny (model C.prog C.w) C.A (call (.builtin "len") [.ref s1.heap.objs.size]) (EP C pins σ Q) C.xe { s1 with heap := h', toks := tk } := fun h' tk o es ep t ho hex hd hf hes hk => by
          have := dst_le ns
          have I2 : Inv C pins σ H1 { s1 with heap := h', toks := tk } := I1.kept hk
          refine call_len_set ho hex hd hf (by rw [hes]; omega) ⟨.int ((dst ns).length : Nat), H1, I2.tok _, ⟨_, by rw [hes]⟩, q _ fun _ _ => .int _⟩
        cases d with
        | list xs =>
          cases e2
          obtain ⟨a', vs, rfl, l, rr⟩ := rd.list
          obtain ⟨f1, f2⟩ := rr.ints e3
          subst f2
          cases r1
          obtain ⟨its, rv, hl, hz⟩ := I1.list l.sq
          have hlen : its.toArray.size = ns.length := by rw [List.size_toArray, ← rv.length, List.length_map]
          refine call_set_list (I1.ok.hd hc) hl.isList (ns := ns) (by simpa using rv.ints) (by unfold scanBound; omega) fun h' tk hS hk => PyProof.Rows.args_nil ?_
          rw [hlen] at hS
          obtain ⟨o, es, ep, t, ho, hex, hd, _, _, _, hf, hn'⟩ := hS
          exact fin h' tk o es ep t ho hex hd hf (hn'.trans (met_len ns)) fun b o e => hk b o (Heap.lt_size e) e
        | tuple xs =>
          cases e2
          obtain ⟨a', vs, rfl, l, rr⟩ := rd.tup
          obtain ⟨f1, f2⟩ := rr.ints e3
          subst f2
          cases r1
          obtain ⟨its, rv, hl, hz⟩ := I1.tuple l
          refine L2.call_set_tupI ns (I1.ok.hd hc) hl (by simpa using rv.ints) (by unfold scanBound; omega) fun h' tk c R' hle hk => PyProof.Rows.args_nil ?_
          obtain ⟨o, es, ep, t, ho, hex, hd, g, nd, hmm, hb, hf, hn', _⟩ := R'
          refine fin h' tk o es ep t ho hex hd hf ?_ hk
          rw [← dst_len nd fun x => by rw [← hmm x, decide_eq_true_eq], List.length_map, Array.length_toList]
        | _ => cases e2
      · cases e1
    · cases e1
/-! ### remove -/
def rRem (K : Fg) : V → List V → Hp → VK → Prop := fun x vs H Q => ∃ (l : Addr) (js : List Int) (k : Int), x = .ref l ∧ vs = [.int k] ∧ H l = some (.lst (js.map V.int)) ∧ k ∈ js ∧ Q .non (upd H l (.lst ((js.erase k).map V.int)))
theorem mRem : L2.MtR C "list.remove" (rRem C.K) := by
  intro pins s σ H x vs v us Q I rx rv h
  obtain ⟨l, js, k, rfl, rfl, hH, hkj, q⟩ := h
  cases rx
  obtain ⟨u, rfl, ru⟩ := rv.one
  obtain ⟨tk, rfl⟩ := ru
  obtain ⟨z, its, n, r, hl, eo⟩ := I.lstM hH
  have hint : IntsAre its js := L2.intsAre_of r
  have hln : js.length = its.length := by rw [← hl, List.length_map]
  have hsz : its.toArray.size ≤ sizeLine := by rw [List.size_toArray, ← hl]; exact z
  obtain ⟨j, j1, j2, j3, j4⟩ := L2.first_at hkj
  have hjl : j < its.length := by omega
  refine call_meets PySem.F.slot_list_remove ⟨_, eo, rfl⟩ PySem.F.entry_list_remove (PySem.F.args_list_remove_2 _ _)
    (MeetsSeq.list_remove l its.toArray n (.int k tk) (isInt k) (fun y hy => eq_isInt k tk hint y (by simpa using hy)) j (by rw [List.size_toArray]; exact hjl) ((L2.isInt_at k hint j hjl).mpr j2) (fun i hi hlt => ?_) hsz) ⟨eo, ?_⟩
  · have hi3 : i < its.length := by rw [List.size_toArray] at hi; exact hi
    show isInt k its[i] = false
    rw [Bool.eq_false_iff]
    exact fun w => j3 i hlt ((L2.isInt_at k hint i hi3).mp w)
  · have r2 : Vals ((js.erase k).map V.int) (its.eraseIdx j) := by
      have w := r.eraseIdx j
      rw [L2.map_eraseIdx', j4] at w
      exact w
    refine ⟨.non, _, I.lset (its' := its.eraseIdx j) hH eo ?_ r2 ?_, rfl, q⟩
    · show its.toArray.eraseIdxIfInBounds j = (its.eraseIdx j).toArray
      rw [List.eraseIdxIfInBounds_toArray]
    · rw [List.length_map]
      have := List.length_erase_le (a := k) (l := js)
      rw [List.length_map] at z
      omega
theorem remV_ok {O : Addr → Prop} {ρ : Nat → Addr} {st st' : Sr} {H : Hp} {o : Vl} {ys : List Vl} {x : V} {us : List V} (S : RelS C.K O ρ H st) (h : remV o ys st = some st') (ro : Rep C.K O ρ st H o x) (rs : Reps C.K O ρ st H ys us) :
    ∃ (l : Addr) (js : List Int) (k : Int), x = .ref l ∧ us = [.int k] ∧ H l = some (.lst (js.map V.int)) ∧ k ∈ js ∧ Stp ρ st H ρ st' (upd H l (.lst ((js.erase k).map V.int))) ∧ RelS C.K O ρ (upd H l (.lst ((js.erase k).map V.int))) st' := by
  unfold remV at h
  split at h
  · rename_i n k e1
    obtain ⟨hn, rfl⟩ := ro
    split at h
    · rename_i xs q
      split at h
      · rename_i js e2
        split at h
        · rename_i hk
          cases h
          obtain ⟨y, rfl, hy⟩ := RdPs.one (C := C) (ddL_rd S rs e1)
          obtain ⟨w, f1, vs, rfl, f2⟩ := S.ob n _ q
          obtain ⟨g1, g2⟩ := f2.ints e2
          subst g2
          obtain ⟨b1, b2⟩ := plain_upd S q (reqI (K := C.K) (m := Mt O ρ st) (H := H) (js.erase k))
          exact ⟨_, js, k, rfl, by rw [hy.int], f1, hk, b1, b2⟩
        · cases h
      · cases h
    · cases h
  · cases h
theorem tyR {O : Addr → Prop} {ρ : Nat → Addr} {st : Sr} {H : Hp} {n : Nat} {v : V} (S : RelS C.K O ρ H st) (r : Rep C.K O ρ st H (.r n) v) (nd : isL (.r n) st = true) : L2.tyV C.K "list" v H := by
  obtain ⟨hn, rfl⟩ := r
  obtain ⟨w, f1, f2⟩ := S.ob n st[n] (by simp [hn])
  cases q : st[n] with
  | lp z xs => rw [q] at f2; obtain ⟨vs, rfl, _⟩ := f2; exact .inl ⟨rfl, vs, .of f1⟩
  | lr xs => rw [q] at f2; obtain ⟨rfl, _⟩ := f2; exact .inl ⟨rfl, _, .of f1⟩
  | dp z kvs =>
    have e : st[n]? = some (.dp z kvs) := by rw [← q]; simp [hn]
    simp [e] at nd
  | no => rw [q] at f2; exact f2.elim
theorem xRem {T0 T1 : T} {p0 : Pos} (hb : ∀ (nm : Str), attributeBase (toE T0) nm C.env (eval (toE T0) C.env) = eval (toE T0) C.env) (hl : (p0.endLine == pos.line) = true) (ho : PE C (toE T0) (TrE C.K W fa)) (hx : PA C [toE T1] (TrA C.K W fs)) :
    PE C (.Call (.Attribute (toE T0) (meN .rem) p0) [toE T1] [] pos) (TrE C.K W fun e s => (fa e s).bd fun o s => if isL o s = true then (fs e s).bd fun vs s => meV .rem o vs s else .no) :=
  imE (L2.pe_bm F.plainAttrs_list PySem.F.slot_list_remove PySem.F.type_list_remove mRem ho hx (hb _) (by rw [star_cons]; rfl) hl (star_cons _ _ _)) fun σ H Q ⟨O, ρ, e, st, R, h⟩ =>
    ⟨O, ρ, e, st, R, End.bd R.S h fun x st1 ρ1 H1 v _ s1 S1 r1 h1 => by
      split at h1
      · rename_i hx
        cases x with
        | p d => cases hx
        | r n =>
          refine ⟨tyR S1 r1 hx, O, ρ1, e, st1, R.go s1 S1, End.bd S1 h1 fun ys st2 ρ2 H2 us _ s2 S2 r2 h2 => ?_⟩
          simp only [meV] at h2
          split at h2
          · rename_i st' q
            obtain ⟨l, js, k, e1, e2, e3, e4, t1, t2⟩ := remV_ok S2 q (Rep.stp S1 s2 r1) r2
            exact ⟨l, js, k, e1, e2, e3, e4, h2 ρ2 _ _ t1 t2 .non⟩
          · exact h2.elim
      · exact h1.elim⟩
end
end Mi
end
section
set_option Elab.async false
set_option linter.all false
set_option maxRecDepth 100000
set_option maxHeartbeats 3200000
/-! N2: sorted(set(..)). -/
section
open PySem L2 PySem.Spec PyProof.Rows
namespace Mi
variable {P : Program} {w : World} {A : Around} {E : Value → Shared → Prop} {s : Shared}
/-- a set before anything is put into it -/
abbrev nset (w : World) : Obj := ⟨.type "set", none, .set #[] 0 (.fresh 0 0 (!w.params.followText "set-order")), #[]⟩
/-- the iterator over a list -/
abbrev lit (l : Addr) : Obj := ⟨.type "list_iterator", none, .fields #[.ref l, .int 0 0], #[]⟩
/-- set(l), l a list of ints: its table is told -/
theorem call_setL {l : Addr} {items : Array Value} (ns : List Int) {Q : Value → Shared → Prop} (hh : A.handled = none) (hl : s.heap.IsList l items) (hit : IntsAre items.toList ns) (hb : ns.length + 1 < scanBound)
    (h : ∀ (h' : Heap) (tk c : Nat), SetR w h' s.heap.objs.size (fun j => decide (j ∈ ns)) c → c ≤ ns.length → (∀ b o, s.heap.get? b = some o → h'.get? b = some o) → Q (.ref s.heap.objs.size) { s with heap := h', toks := tk }) :
    wpAny (model P w) A (call (.type "set") [.ref l]) Q E s := by
  have size : items.size = ns.length := by rw [← Array.length_toList]; exact IntsAre.length hit
  have ⟨c, tl, hmro⟩ := F.called_set.mro
  have hmade := F.called_set.made
  have hsub := F.called_set.sub
  apply wpAny_call; apply codeAny_of_tree
  change wpAny _ _ (callAny (.type "set") _) _ _ _
  apply wpAny_pure
  refine ⟨Code.quiet_builtin _ (by decide +kernel), ?_⟩
  apply codeAny_builtin F.entry_type_call
  rw [Around.under_plain (weight_type_call_type "set" [.ref l] []) rfl]
  have h1 := F.called_set.notType
  have h2 := F.called_set.canCreate
  have hct := F.typeCall_set_1 (.ref l)
  repeat any_goals first | wp_step | assumption
  refine codeAny_mono (code_set_led1 (.ref l) (E := E) (Q₁ := fun x t => x = .ref s.heap.objs.size ∧ t = { s with heap := s.heap.push (nset w) }) ⟨rfl, rfl⟩) ?_
  intro r t hr
  cases r with
  | error e => exact hr
  | ok fl =>
    cases fl with
    | ret x =>
      have ⟨ex, et⟩ := hr
      subst ex; subst et
      have hS : (s.heap.push (nset w)).get? s.heap.objs.size = some (nset w) := Heap.get?_push_size _ rfl
      have hT : Shared.TypeIs { s with heap := s.heap.push (nset w) } (.ref s.heap.objs.size) "set" := ⟨_, hS, rfl⟩
      have hli := F.called_set.init.lookup
      have hbi := F.called_set.init.bind (.ref s.heap.objs.size)
      repeat any_goals first | wp_step | assumption
      refine codeAny_mono (codeAny_call_builtin (R := wants (fun r t => r = .none ∧ ∃ h' tk c, t = { s with heap := h', toks := tk } ∧ SetR w h' s.heap.objs.size (fun j => decide (j ∈ ns)) c ∧ c ≤ ns.length ∧ ∀ b o, s.heap.get? b = some o → h'.get? b = some o) E) F.called_set.init.plain F.entry_set_init (check_set_init_1 hT ?_)) ?_
      · have ⟨⟨ocl, odi, oda, osl⟩, hol, hcl, nl, hdl⟩ := hl
        simp only at hcl hdl
        subst hcl; subst hdl
        have hol' : (s.heap.push (nset w)).get? l = some ⟨.type "list", odi, .seq items nl, osl⟩ := Heap.get?_push_of_some _ hol
        have hsls := F.sub_list_set
        have hslf := F.sub_list_frozenset
        have hne : (Value.type "list" == Value.type "dict") = false := by decide
        have hl1 : (s.heap.push (nset w)).IsList l items := ⟨_, hol', rfl, nl, rfl⟩
        unfold Builtin.«set.__init__» noKeywords Builtin.Frozenset.updateFrom
        generalize hPI : pyIter = PI
        wp_walk
        subst hPI
        apply wpAny_pyIter_list hl1
        apply wpAny_bind; apply wpAny_runValue
        have lS : l < s.heap.objs.size := Heap.lt_size hol
        have hh3 : A.in1.in1.in1.handled = none := by simp [hh]
        have zz : (s.heap.push (nset w)).objs.size = s.heap.objs.size + 1 := Heap.size_push ..
        have neI : l ≠ (s.heap.push (nset w)).objs.size := Nat.ne_of_lt (by rw [zz]; exact Nat.lt_succ_of_lt lS)
        have nin : s.heap.objs.size ∉ [(s.heap.push (nset w)).objs.size, l] := by
          rw [zz]
          intro q
          rcases List.mem_cons.mp q with q | q
          · exact Nat.ne_of_lt (Nat.lt_succ_self _) q
          · exact Nat.ne_of_gt lS (List.mem_singleton.mp q)
        have val : ∀ (i : Nat) (v : Value), items[i]? = some v → ∃ k t, ns[i]? = some k ∧ v = .int k t := by
          intro i v hv
          have hi : i < ns.length := by rw [← size]; exact (Array.getElem?_eq_some_iff.mp hv).1
          have ⟨t, e⟩ := IntsAre.int_at hit i v (by rw [Array.getElem?_toList]; exact hv)
          refine ⟨ns[i], t, List.getElem?_eq_getElem hi, ?_⟩
          rw [e, List.getD_eq_getElem?_getD, List.getElem?_eq_getElem hi] <;> rfl
        refine set_update_ints ((Walks.list hh3 _ l neI items).toS) s.heap.objs.size nin ns size hb val (items.size - 0) 0 _ (by omega) (Nat.zero_le _) ⟨⟨_, Heap.get?_push_size _ rfl, rfl, rfl⟩, hl1.push _⟩ ⟨0, Nat.le_refl 0, setR_new_at (Heap.get?_push_of_some (h := s.heap.push (nset w)) (lit l) hS)⟩ ?_
        intro ⟨h', g2, d', tk', os'⟩ c' hm hc' hS'
        have e1 : g2 = s.gens := hm.gens
        have e2 : d' = s.drawn := hm.drawn
        have e3 : os' = s.os := hm.os
        subst e1; subst e2; subst e3
        change wpAny _ _ _ _ _ _
        apply wpAny_pure
        change wpAny _ _ (ret Value.none) _ _ _
        apply wpAny_pure
        refine ⟨rfl, h', tk', c', rfl, hS', by omega, ?_⟩
        intro b o e
        have b0 : b < s.heap.objs.size := Heap.lt_size e
        refine hm.heap b o ?_ (Heap.get?_push_of_some _ (Heap.get?_push_of_some _ e))
        rw [zz]
        intro q
        rcases List.mem_cons.mp q with q | q
        · exact Nat.ne_of_lt b0 q
        · exact Nat.ne_of_lt (Nat.lt_succ_of_lt b0) (List.mem_singleton.mp q)
      · intro r2 t2 hr2
        cases r2 with
        | error e => exact hr2
        | ok f2 =>
          cases f2 with
          | ret r =>
            have ⟨er, h', tk, c', es, hS', hc', hk'⟩ := hr2
            subst er; subst es
            repeat any_goals first | wp_step | assumption
            exact h _ _ _ hS' hc' hk'
          | _ => exact hr2.elim
    | _ => exact hr.elim
end Mi
end
end
section
set_option Elab.async false
set_option linter.all false
set_option maxRecDepth 100000
set_option maxHeartbeats 2000000
/-! N3: sorted(set(..)), its rule. -/
namespace Mi
open PySem PyProof.Rows
open L2 (V HO Hp upd upd_same upd_ne SqL SqT Rd Cx Inv PE PT PA PS PSs PG PGs PI TE TT TA TS TG TGs TI It VK XK Ends RelV Vals ne_of_none OpR R2 EP CallR UnR IxR SlR TruR Gl Vis Loc SetR)
theorem insI_mem {x y : Int} : ∀ {l : List Int}, y ∈ insI x l ↔ y = x ∨ y ∈ l
  | [] => by simp [insI]
  | z :: r => by
    unfold insI
    split
    · simp
    · split
      · rename_i h
        subst h
        simp
      · rw [List.mem_cons, insI_mem, List.mem_cons]
        constructor
        · rintro (h | h | h)
          · exact .inr (.inl h)
          · exact .inl h
          · exact .inr (.inr h)
        · rintro (h | h | h)
          · exact .inr (.inl h)
          · exact .inl h
          · exact .inr (.inr h)
theorem insI_up {x : Int} : ∀ {l : List Int}, l.Pairwise (· < ·) → (insI x l).Pairwise (· < ·)
  | [], _ => by simp [insI]
  | z :: r, h => by
    obtain ⟨h1, h2⟩ := List.pairwise_cons.mp h
    unfold insI
    split
    · rename_i q
      exact List.pairwise_cons.mpr ⟨fun y hy => (List.mem_cons.mp hy).elim (fun e => e ▸ q) fun e => Int.lt_trans q (h1 y e), h⟩
    · split
      · exact h
      · refine List.pairwise_cons.mpr ⟨fun y hy => ?_, insI_up h2⟩
        rcases insI_mem.mp hy with e | e
        · omega
        · exact h1 y e
theorem srt_mem {x : Int} : ∀ {l : List Int}, x ∈ srt l ↔ x ∈ l
  | [] => by simp [srt]
  | y :: r => by rw [srt, insI_mem, srt_mem, List.mem_cons]
theorem srt_up : ∀ (l : List Int), (srt l).Pairwise (· < ·)
  | [] => List.Pairwise.nil
  | y :: r => insI_up (srt_up r)
theorem up_uni : ∀ {l m : List Int}, l.Pairwise (· < ·) → m.Pairwise (· < ·) → (∀ x, x ∈ l ↔ x ∈ m) → l = m
  | [], [], _, _, _ => rfl
  | [], y :: r, _, _, h => absurd ((h y).mpr List.mem_cons_self) (by simp)
  | y :: r, [], _, _, h => absurd ((h y).mp List.mem_cons_self) (by simp)
  | y :: r, z :: q, hl, hm, h => by
    obtain ⟨l1, l2⟩ := List.pairwise_cons.mp hl
    obtain ⟨m1, m2⟩ := List.pairwise_cons.mp hm
    have e : y = z := by
      have a := List.mem_cons.mp ((h y).mp List.mem_cons_self)
      have b := List.mem_cons.mp ((h z).mpr List.mem_cons_self)
      rcases a with a | a
      · exact a
      · rcases b with b | b
        · exact b.symm
        · have := m1 y a
          have := l1 z b
          omega
    subst e
    rw [up_uni l2 m2 fun x => ?_]
    constructor
    · intro hx
      rcases List.mem_cons.mp ((h x).mp (List.mem_cons_of_mem _ hx)) with e | e
      · have := l1 x hx; omega
      · exact e
    · intro hx
      rcases List.mem_cons.mp ((h x).mpr (List.mem_cons_of_mem _ hx)) with e | e
      · have := m1 x hx; omega
      · exact e
theorem req_ints {K : Fg} {m : Addr → Prop} {H : Hp} : ∀ (ns : List Int), ReqP K m H (ns.map .int) (ns.map V.int)
  | [] => .nil
  | n :: r => .cons (.int n) (req_ints r)
theorem xSetS {T0 : T} {p0 p1 p2 : Pos} (hc : C.calm = true) (hg : Gl C "sorted") (hm : C.mg "sorted" = none) (hg2 : Gl C "set") (hm2 : C.mg "set" = none) (ha : PE C (toE T0) (TrE C.K W fa)) :
    PE C (.Call (.Name "sorted" p0) [.Call (.Name "set" p1) [toE T0] [] p2] [] pos) (TrE C.K W fun e s => op1 (sbP true) (fa e s)) := by
  refine ⟨fun pins s σ H Q I ⟨O, ρ, e, st, R, h⟩ => ?_⟩
  refine PyProof.Rows.Call_ (L2.ld_blt I hg hm (show bootBuiltins "sorted" = some (.builtin "sorted") by decide +kernel) (PyProof.Rows.callWith_builtin1 (PyProof.Rows.args_cons ?_ rfl) rfl rfl))
  refine PyProof.Rows.Call_ (L2.ld_blt I hg2 hm2 PyProof.Rows.boot_set ?_)
  refine PyProof.Rows.callWith_type1 (PyProof.Rows.args_cons (L2.thn (ha.run pins s σ H (fun x H1 => ∃ (ρ1 : Nat → Addr) (st1 : Sr) (d c : P), RelS C.K O ρ1 H1 st1 ∧ sbP true d = some c ∧ RdP C.K (Mt O ρ1 st1) H1 d x ∧ ∀ H2 v, Stp ρ1 st1 H1 ρ1 st1 H2 → RelS C.K O ρ1 H2 st1 → RepP C.K (Mt O ρ1 st1) H2 c v → Q v H2) I ⟨O, ρ, e, st, R, End.bd R.S h fun x st1 ρ1 H1 v _ s1 S1 r1 h1 => ?_⟩) fun v s1 ⟨x, H1, I1, r1, ρ1, st1, d, c, S1, e1, rd, q⟩ => PyProof.Rows.args_nil ?_) (star_cons _ _ _)) (star_cons _ _ _) rfl
  · split at h1
    · rename_i p e1
      split at h1
      · rename_i c e3
        exact ⟨ρ1, st1, p, c, S1, e3, dd_rd S1 r1 e1, fun H2 v s2 S2 r2 => h1 ρ1 H2 v s2 S2 r2⟩
      · exact h1.elim
    · exact h1.elim
  · unfold sbP at e1
    split at e1
    · rename_i ns e2
      rw [Option.bind_eq_some_iff] at e2
      obtain ⟨ds, e2, e3⟩ := e2
      split at e1
      · rename_i hn
        cases e1
        have fin : ∀ (h' : Heap) (tk c : Nat), SetR C.w h' s1.heap.objs.size (fun j => decide (j ∈ ns)) c → c ≤ ns.length → (∀ b o, s1.heap.get? b = some o → h'.get? b = some o) →
            wpAny (model C.prog C.w) C.A (call (.builtin "sorted") [.ref s1.heap.objs.size]) (EP C pins σ Q) C.xe { s1 with heap := h', toks := tk } := fun h' tk c hS hcl hk => by
          have I2 : Inv C pins σ H1 { s1 with heap := h', toks := tk } := I1.kept hk
          refine L2.sorted_set hS (I2.ok.hd hc) (by omega) fun s' p out c2 ms k g o hp hg' hi hs hmm hl => ?_
          have em : ms = srt ns := up_uni hs (srt_up ns) fun x => by rw [hmm, srt_mem, decide_eq_true_eq]
          subst em
          have hlen : ((srt ns).map V.int).length ≤ sizeLine := by rw [List.length_map, hl]; exact lim_line (by unfold lim; omega)
          have hp' : H1 p = none := I2.hok.fresh hp
          have J : Inv C pins σ (upd H1 p (.lst ((srt ns).map V.int))) { ({ s1 with heap := h', toks := tk } : Shared) with heap := s'.heap, gens := s'.gens, drawn := s'.drawn, toks := s'.toks } :=
            I2.call (ch := []) (L2.Un.laid k hp hp') (I2.hok.laid k hp ⟨hlen, out.toList, c2, L2.vals_of_ints hi, hg'⟩) (by rw [g]; exact I2.bare) (fun _ z => nomatch z)
          have es : s' = { ({ s1 with heap := h', toks := tk } : Shared) with heap := s'.heap, gens := s'.gens, drawn := s'.drawn, toks := s'.toks } := by
            cases s'
            cases s1
            cases o
            rfl
          rw [es]
          exact ⟨.ref p, _, J, rfl, q _ _ (Stp.new S1 hp') (S1.new hp') (rep_newL S1 hp' (req_ints _))⟩
        cases d with
        | list xs =>
          cases e2
          obtain ⟨a', vs, rfl, l, rr⟩ := rd.list
          obtain ⟨f1, f2⟩ := rr.ints e3
          subst f2
          cases r1
          obtain ⟨its, rv, hl, hz⟩ := I1.list l.sq
          exact call_setL ns (I1.ok.hd hc) hl.isList (by simpa using rv.ints) (by unfold scanBound; omega) fun h' tk c R' hle hk => PyProof.Rows.args_nil (fin h' tk c R' hle hk)
        | tuple xs =>
          cases e2
          obtain ⟨a', vs, rfl, l, rr⟩ := rd.tup
          obtain ⟨f1, f2⟩ := rr.ints e3
          subst f2
          cases r1
          obtain ⟨its, rv, hl, hz⟩ := I1.tuple l
          exact L2.call_set_tupI ns (I1.ok.hd hc) hl (by simpa using rv.ints) (by unfold scanBound; omega) fun h' tk c R' hle hk => PyProof.Rows.args_nil (fin h' tk c R' hle hk)
        | _ => cases e2
      · cases e1
    · cases e1
end Mi
end
section
set_option Elab.async false
set_option linter.all false
set_option maxRecDepth 100000
set_option maxHeartbeats 3200000
/-! N4: list(zip(a, b)): zip's next while the tuple it handed out first is kept. -/
section
open PySem PyProof.Rows
namespace Mi
variable {P : Program} {w : World} {A : Around} {E : Value → Shared → Prop} {s : Shared} {z TI TO i1 i2 : Addr} {fp1 fp2 : List Addr} {n1 n2 : Nat} {P1 P2 : Nat → Value → Prop} {St1 St2 : Nat → Heap → Prop} {a1 a2 : Value} {i : Nat}
/-- a zip whose first tuple, at T, is kept; b: whether it was looked at -/
abbrev IsZk (h : Heap) (z TI TO T : Addr) (b : Bool) : Prop := h.get? z = some ⟨.type "zip", none, .fields #[rawInt T, .bool b, .bool false, .ref TI, .ref TO], #[]⟩
theorem zk_free {T : Addr} {b : Bool} {o : Obj} {Q : Bool → Shared → Prop} (hz : IsZk s.heap z TI TO T b) (hT : s.heap.get? T = some o) (hQ : ∀ h', IsZk h' z TI TO T true → Heap.SameBut z s.heap h' → Q false { s with heap := h' }) :
    wpAny (model P w) A (Builtin.SmallTypes.ownedTupleIsFree (.ref z)) Q E s := by
  unfold Builtin.SmallTypes.ownedTupleIsFree
  refine wpAny_bind (wpAny_field hz rfl (x := rawInt T) rfl ?_)
  show wpAny _ _ (loadIfAlive (Int.toNat (T : Nat)) >>= _) _ _ _
  rw [Int.toNat_natCast]
  refine wpAny_bind (PySem.W.kdx_alive hT ?_)
  simp only [Option.isNone_some, Bool.false_eq_true, if_false]
  refine wpAny_bind (wpAny_field hz rfl (x := .bool b) rfl ?_)
  cases b with
  | true =>
    rw [if_neg (by decide)]
    exact wpAny_pure (hQ _ hz (Heap.SameBut.refl _ _))
  | false =>
    rw [if_pos (by decide)]
    refine wpAny_bind (wpAny_setField_rec hz (by simp) fun h1 hz1 hs1 => wpAny_pure ?_)
    exact hQ h1 hz1 hs1
theorem zk_next {T : Addr} {b : Bool} {o : Obj} {Q : Value → Shared → Prop} (S : ZipSep2 z TI TO i1 i2 fp1 fp2) (D1 : Draws P w A i1 fp1 n1 P1 St1) (D2 : Draws P w A i2 fp2 n2 P2 St2)
    (hz : IsZk s.heap z TI TO T b) (hT : s.heap.get? T = some o) (hTI : IsTupOf2 s.heap TI (.ref i1) (.ref i2)) (st1 : St1 i s.heap) (st2 : St2 i s.heap) (hlt1 : i < n1) (hlt2 : i < n2)
    (hQ : ∀ x1 x2 h' tk, P1 i x1 → P2 i x2 → IsZk h' z TI TO T true → St1 (i + 1) h' → St2 (i + 1) h' → IsTupOf2 h' s.heap.objs.size x1 x2 → h'.objs.size = s.heap.objs.size + 1 →
      (∀ c o, c ≠ z → c ≠ i1 → c ≠ i2 → s.heap.get? c = some o → h'.get? c = some o) → Q (.ref s.heap.objs.size) { s with heap := h', toks := tk }) :
    wpAny (model P w) A (Builtin.«zip.__next__» ⟨[.ref z], []⟩) (fun fin s' => ∃ v, fin = .done (.ret v) ∧ Q v s') E s := by
  obtain ⟨hp, g, d, tk0, os⟩ := s
  show wpAny _ _ (field (.ref z) 2 >>= _) _ _ _
  refine wpAny_bind (wpAny_field hz rfl (x := .bool false) rfl ?_)
  show wpAny _ _ (field (.ref z) 3 >>= _) _ _ _
  refine wpAny_bind (wpAny_field hz rfl (x := .ref TI) rfl ?_)
  refine wpAny_bind (wpAny_seqItems hTI rfl ?_)
  show wpAny _ _ (Builtin.SmallTypes.ownedTupleIsFree (.ref z) >>= _) _ _ _
  refine wpAny_bind (zk_free hz hT fun h1 hz1 hs1 => ?_)
  replace hs1 : Heap.SameBut z hp h1 := hs1
  simp only [Bool.false_eq_true, if_false]
  rw [← Array.forIn_toList]
  simp only [List.forIn_cons, List.forIn_nil]
  refine wpAny_bind (wpAny_bind (wpAny_bind (wpAny_holding ?_)))
  show wpAny _ _ (Builtin.SmallTypes.nextOf (.ref i1) >>= _) _ _ ⟨h1, g, d, tk0, os⟩
  refine wpAny_bind (D1.item i _ _ _ hlt1 (D1.over st1 hs1 S.zf1) fun x1 p1 tk1 hx1 sn1 hp1 => wpAny_pure (wpAny_pure ?_))
  replace hp1 : Heap.SameBut i1 h1 p1 := hp1
  refine wpAny_bind (wpAny_bind (wpAny_holding ?_))
  show wpAny _ _ (Builtin.SmallTypes.nextOf (.ref i2) >>= _) _ _ ⟨p1, g, d, tk1, os⟩
  refine wpAny_bind (D2.item i _ _ _ hlt2 (D2.over (D2.over st2 hs1 S.zf2) hp1 S.sep1_2) fun x2 p2 tk2 hx2 sn2 hp2 => wpAny_pure (wpAny_pure ?_))
  replace hp2 : Heap.SameBut i2 p1 p2 := hp2
  refine wpAny_pure ?_
  show wpAny _ _ (newTuple [x1, x2] >>= _) _ _ ⟨p2, g, d, tk2, os⟩
  refine wpAny_bind (wpAny_newTuple ?_)
  have hsz : p2.objs.size = hp.objs.size := by rw [hp2.1, hp1.1, hs1.1]
  have hzz : IsZk p2 z TI TO T true := hp2.extBut _ _ S.zi2 (hp1.extBut _ _ S.zi1 hz1)
  have kk : ∀ c o, c ≠ z → c ≠ i1 → c ≠ i2 → hp.get? c = some o → p2.get? c = some o := fun c o cz c1 c2 e => hp2.extBut _ _ c2 (hp1.extBut _ _ c1 (hs1.extBut _ _ cz e))
  have up : ∀ c o, p2.get? c = some o → (p2.push { cls := .type "tuple", data := .seq #[x1, x2] }).get? c = some o := fun c o e => Heap.get?_push_of_some _ e
  refine wpAny_pure ⟨_, rfl, ?_⟩
  have gT := Heap.get?_push_size p2 (o := { cls := .type "tuple", data := .seq #[x1, x2] }) rfl
  rw [hsz] at gT
  show Q (.ref p2.objs.size) _
  rw [hsz]
  exact hQ x1 x2 _ tk2 hx1 hx2 (up _ _ hzz) (D1.frame _ _ _ (D1.over sn1 hp2 S.sep2_1) fun b _ o e => up b o e) (D2.frame _ _ _ sn2 fun b _ o e => up b o e) gT (by rw [Heap.size_push, hsz]) fun c o cz c1 c2 e => up c o (kk c o cz c1 c2 e)
theorem zk_end {T : Addr} {b : Bool} {o : Obj} {Q : Fin → Shared → Prop} (S : ZipSep2 z TI TO i1 i2 fp1 fp2) (D1 : Draws P w A i1 fp1 n1 P1 St1) (D2 : Draws P w A i2 fp2 n2 P2 St2)
    (hz : IsZk s.heap z TI TO T b) (hT : s.heap.get? T = some o) (hTI : IsTupOf2 s.heap TI (.ref i1) (.ref i2)) (st1 : St1 i s.heap) (st2 : St2 i s.heap) (hle1 : i ≤ n1) (hle2 : i ≤ n2) (hend : i = n1 ∨ i = n2)
    (hE : ∀ h' tk e, (∀ c o, c ≠ z → c ≠ i1 → c ≠ i2 → s.heap.get? c = some o → h'.get? c = some o) → (∃ o, h'.get? e = some o ∧ o.cls = .type "StopIteration") → E (.ref e) { s with heap := h', toks := tk }) :
    wpAny (model P w) A (Builtin.«zip.__next__» ⟨[.ref z], []⟩) Q E s := by
  obtain ⟨hp, g, d, tk0, os⟩ := s
  show wpAny _ _ (field (.ref z) 2 >>= _) _ _ _
  refine wpAny_bind (wpAny_field hz rfl (x := .bool false) rfl ?_)
  show wpAny _ _ (field (.ref z) 3 >>= _) _ _ _
  refine wpAny_bind (wpAny_field hz rfl (x := .ref TI) rfl ?_)
  refine wpAny_bind (wpAny_seqItems hTI rfl ?_)
  show wpAny _ _ (Builtin.SmallTypes.ownedTupleIsFree (.ref z) >>= _) _ _ _
  refine wpAny_bind (zk_free hz hT fun h1 hz1 hs1 => ?_)
  replace hs1 : Heap.SameBut z hp h1 := hs1
  simp only [Bool.false_eq_true, if_false]
  rw [← Array.forIn_toList]
  simp only [List.forIn_cons, List.forIn_nil]
  refine wpAny_bind (wpAny_bind (wpAny_bind (wpAny_holding ?_)))
  show wpAny _ _ (Builtin.SmallTypes.nextOf (.ref i1) >>= _) _ _ ⟨h1, g, d, tk0, os⟩
  by_cases q : i = n1
  · subst q
    exact wpAny_bind (D1.done _ _ _ (D1.over st1 hs1 S.zf1) fun h2 e hk he => hE h2 tk0 e (fun c o cz c1 _ x => hk _ _ c1 (hs1.extBut _ _ cz x)) he)
  · refine wpAny_bind (D1.item i _ _ _ (by omega) (D1.over st1 hs1 S.zf1) fun x1 p1 tk1 hx1 sn1 hp1 => wpAny_pure (wpAny_pure ?_))
    replace hp1 : Heap.SameBut i1 h1 p1 := hp1
    have q2 : i = n2 := hend.resolve_left q
    subst q2
    refine wpAny_bind (wpAny_bind (wpAny_holding ?_))
    show wpAny _ _ (Builtin.SmallTypes.nextOf (.ref i2) >>= _) _ _ ⟨p1, g, d, tk1, os⟩
    exact wpAny_bind (D2.done _ _ _ (D2.over (D2.over st2 hs1 S.zf2) hp1 S.sep1_2) fun h2 e hk he => hE h2 tk1 e (fun c o cz c1 c2 x => hk _ _ c2 (hp1.extBut _ _ c1 (hs1.extBut _ _ cz x))) he)
theorem py_zk_next {T : Addr} {b : Bool} {o : Obj} {Q : Option Value → Shared → Prop} (S : ZipSep2 z TI TO i1 i2 fp1 fp2) (D1 : Draws P w A.in1 i1 fp1 n1 P1 St1) (D2 : Draws P w A.in1 i2 fp2 n2 P2 St2)
    (hz : IsZk s.heap z TI TO T b) (hT : s.heap.get? T = some o) (hTI : IsTupOf2 s.heap TI (.ref i1) (.ref i2)) (st1 : St1 i s.heap) (st2 : St2 i s.heap) (hlt1 : i < n1) (hlt2 : i < n2)
    (hQ : ∀ x1 x2 h' tk, P1 i x1 → P2 i x2 → IsZk h' z TI TO T true → St1 (i + 1) h' → St2 (i + 1) h' → IsTupOf2 h' s.heap.objs.size x1 x2 → h'.objs.size = s.heap.objs.size + 1 →
      (∀ c o, c ≠ z → c ≠ i1 → c ≠ i2 → s.heap.get? c = some o → h'.get? c = some o) → Q (some (.ref s.heap.objs.size)) { s with heap := h', toks := tk }) :
    wpAny (model P w) A (pyNext (.ref z)) Q E s := by
  have ty : s.TypeIs (.ref z) "zip" := ⟨_, hz, rfl⟩
  unfold pyNext
  refine wpAny_bind (wpAny_attempt (wpAny_callSpecial?_slot (name := Str.ofString "__next__") ty F.slot_zip_next (wpAny_call_entry F.slot_zip_next ty F.entry_zip_next ?_ (F.args_zip_next_1 _))))
  exact zk_next S D1 D2 hz hT hTI st1 st2 hlt1 hlt2 fun x1 x2 h' tk a1 a2 a3 a4 a5 a6 a7 a8 => wpAny_pure (hQ x1 x2 h' tk a1 a2 a3 a4 a5 a6 a7 a8)
theorem py_zk_end {T : Addr} {b : Bool} {o : Obj} {Q : Option Value → Shared → Prop} (S : ZipSep2 z TI TO i1 i2 fp1 fp2) (D1 : Draws P w A.in1 i1 fp1 n1 P1 St1) (D2 : Draws P w A.in1 i2 fp2 n2 P2 St2)
    (hz : IsZk s.heap z TI TO T b) (hT : s.heap.get? T = some o) (hTI : IsTupOf2 s.heap TI (.ref i1) (.ref i2)) (st1 : St1 i s.heap) (st2 : St2 i s.heap) (hle1 : i ≤ n1) (hle2 : i ≤ n2) (hend : i = n1 ∨ i = n2)
    (hQ : ∀ h' tk, (∀ c o, c ≠ z → c ≠ i1 → c ≠ i2 → s.heap.get? c = some o → h'.get? c = some o) → Q none { s with heap := h', toks := tk }) : wpAny (model P w) A (pyNext (.ref z)) Q E s := by
  have ty : s.TypeIs (.ref z) "zip" := ⟨_, hz, rfl⟩
  unfold pyNext
  refine wpAny_bind (wpAny_attempt (wpAny_callSpecial?_slot (name := Str.ofString "__next__") ty F.slot_zip_next (wpAny_call_entry F.slot_zip_next ty F.entry_zip_next (zk_end S D1 D2 hz hT hTI st1 st2 hle1 hle2 hend fun h' tk e hk he => ?_) (F.args_zip_next_1 _))))
  obtain ⟨o, ho, hc⟩ := he
  exact wpAny_bind (wpAny_isInstance (T := "StopIteration") (b := true) ⟨o, ho, hc⟩ isSubtype_stop (wpAny_pure (hQ _ _ hk)))
end Mi
end
end
section
set_option Elab.async false
set_option linter.all false
set_option maxRecDepth 100000
set_option maxHeartbeats 3200000
/-! N5: list.extend over a zip. -/
section
open PySem PyProof.Rows
namespace Mi
variable {P : Program} {w : World} {A : Around} {E : Value → Shared → Prop} {z TI TO i1 i2 S : Addr} {fp1 fp2 : List Addr} {m0 : Addr} {n1 n2 : Nat} {P1 P2 : Nat → Value → Prop} {St1 St2 : Nat → Heap → Prop} {h0 : Heap}
/-- so many tuples handed out and kept in the list at S -/
structure ZL (z TI TO S : Addr) (i1 i2 m0 : Addr) (P1 P2 : Nat → Value → Prop) (St1 St2 : Nat → Heap → Prop) (h0 : Heap) (i : Nat) (Ts : List Addr) (h : Heap) : Prop where
  zip : (Ts = [] ∧ IsZip h z TI TO .none ∧ ∃ a b, IsTupOf2 h TO a b) ∨ ∃ T b, T ∈ Ts ∧ IsZk h z TI TO T b
  ti : IsTupOf2 h TI (.ref i1) (.ref i2)
  eo : ∃ o, h.get? TO = some o
  st1 : St1 i h
  st2 : St2 i h
  len : Ts.length = i
  lst : ∃ c, h.get? S = some ⟨.type "list", none, .seq (Ts.map Value.ref).toArray c, #[]⟩
  tup : ∀ j T, Ts[j]? = some T → ∃ x y, P1 j x ∧ P2 j y ∧ IsTupOf2 h T x y
  new : ∀ T ∈ Ts, m0 ≤ T ∧ T < h.objs.size ∧ T ≠ z ∧ T ≠ TO ∧ T ≠ i1 ∧ T ≠ i2 ∧ T ≠ S
  nd : Ts.Nodup
  old : ∀ b o, b < m0 → h0.get? b = some o → h.get? b = some o
theorem zl_loop (Z : ZipSep2 z TI TO i1 i2 fp1 fp2) (D1 : Draws P w A.in1.in1 i1 fp1 n1 P1 St1) (D2 : Draws P w A.in1.in1 i2 fp2 n2 P2 St2) (hS : S ∉ z :: TI :: TO :: (fp1 ++ fp2)) (hm : m0 ≤ z ∧ m0 ≤ TI ∧ m0 ≤ TO ∧ m0 ≤ i1 ∧ m0 ≤ i2 ∧ m0 ≤ S) (hn : min n1 n2 < 1000000) {R : Result → Shared → Prop} (res : Value) :
    ∀ (k i : Nat) (s : Shared) (Ts : List Addr), min n1 n2 - i = k → i ≤ n1 → i ≤ n2 → ZL z TI TO S i1 i2 m0 P1 P2 St1 St2 h0 i Ts s.heap →
    (∀ (h' : Heap) (tk : Nat) (Ts : List Addr), Ts.length = min n1 n2 → (∃ c, h'.get? S = some ⟨.type "list", none, .seq (Ts.map Value.ref).toArray c, #[]⟩) → (∀ j T, Ts[j]? = some T → ∃ x y, P1 j x ∧ P2 j y ∧ IsTupOf2 h' T x y) → (∀ T ∈ Ts, m0 ≤ T ∧ T ≠ S) → Ts.Nodup → (∀ b o, b < m0 → h0.get? b = some o → h'.get? b = some o) → R (.ok (.ret res)) { s with heap := h', toks := tk }) →
    codeAny (model P w) A (.builtin "list.extend.loop" ⟨[.ref S, .ref z, res], []⟩) R s := by
  intro k
  induction k with
  | zero =>
    intro i s Ts hk h1 h2 I hR
    refine codeAny_builtin PySem.F.entry_extend_loop ?_
    rw [Around.under_plainId PySem.F.plain_extend_loop _]
    show wpAny _ A.in1 (pyNext (.ref z) >>= _) _ _ s
    have hin : min n1 n2 = i := by omega
    have he : i = n1 ∨ i = n2 := by omega
    have fin : ∀ h' tk, (∀ c o, c ≠ z → c ≠ TO → c ≠ i1 → c ≠ i2 → s.heap.get? c = some o → h'.get? c = some o) → R (.ok (.ret res)) { s with heap := h', toks := tk } := fun h' tk kp => by
      have hSz : S ≠ z := fun q => hS (by rw [q]; simp)
      have hSO : S ≠ TO := fun q => hS (by rw [q]; simp)
      have hS1 : S ≠ i1 := fun q => hS (by rw [q]; simp [Z.mem1])
      have hS2 : S ≠ i2 := fun q => hS (by rw [q]; simp [Z.mem2])
      refine hR h' tk Ts (by rw [I.len, hin]) ?_ (fun j T e => ?_) (fun T hT => ⟨(I.new T hT).1, (I.new T hT).2.2.2.2.2.2⟩) I.nd fun b o hb e => ?_
      · obtain ⟨c, e⟩ := I.lst
        exact ⟨c, kp _ _ hSz hSO hS1 hS2 e⟩
      · obtain ⟨x, y, a1, a2, a3⟩ := I.tup j T e
        have nw := I.new T (List.mem_of_getElem? e)
        exact ⟨x, y, a1, a2, kp _ _ nw.2.2.1 nw.2.2.2.1 nw.2.2.2.2.1 nw.2.2.2.2.2.1 a3⟩
      · exact kp _ _ (fun q => by rw [q] at hb; exact Nat.not_lt.mpr hm.1 hb) (fun q => by rw [q] at hb; exact Nat.not_lt.mpr hm.2.2.1 hb) (fun q => by rw [q] at hb; exact Nat.not_lt.mpr hm.2.2.2.1 hb) (fun q => by rw [q] at hb; exact Nat.not_lt.mpr hm.2.2.2.2.1 hb) (I.old b o hb e)
    rcases I.zip with ⟨e, hz, a, b, hO⟩ | ⟨T, b, hT, hz⟩
    · exact wpAny_bind (wpAny_pyNext_zipD2_end Z D1 D2 hz I.ti hO I.st1 I.st2 h1 h2 he fun h' tk kp => wpAny_pure (fin h' tk kp))
    · obtain ⟨j, hj, ej⟩ := List.getElem_of_mem hT
      obtain ⟨x, y, _, _, eT⟩ := I.tup j T (by rw [List.getElem?_eq_getElem hj, ej])
      exact wpAny_bind (py_zk_end Z D1 D2 hz eT I.ti I.st1 I.st2 h1 h2 he fun h' tk kp => wpAny_pure (fin h' tk fun c o c1 _ c3 c4 e => kp c o c1 c3 c4 e))
  | succ k ih =>
    intro i s Ts hk h1 h2 I hR
    refine codeAny_builtin PySem.F.entry_extend_loop ?_
    rw [Around.under_plainId PySem.F.plain_extend_loop _]
    show wpAny _ A.in1 (pyNext (.ref z) >>= _) _ _ s
    have hlt1 : i < n1 := by omega
    have hlt2 : i < n2 := by omega
    have hSz : S ≠ z := fun q => hS (by rw [q]; simp)
    have hSI : S ≠ TI := fun q => hS (by rw [q]; simp)
    have hSO : S ≠ TO := fun q => hS (by rw [q]; simp)
    have hS1 : S ≠ i1 := fun q => hS (by rw [q]; simp [Z.mem1])
    have hS2 : S ≠ i2 := fun q => hS (by rw [q]; simp [Z.mem2])
    have f1 : S ∉ fp1 := fun q => hS (by simp [q])
    have f2 : S ∉ fp2 := fun q => hS (by simp [q])
    have go : ∀ (x1 x2 : Value) (h' : Heap) (tk : Nat) (T0 : Addr) (b0 : Bool), P1 i x1 → P2 i x2 → IsZk h' z TI TO T0 b0 → T0 ∈ Ts ++ [s.heap.objs.size] → St1 (i + 1) h' → St2 (i + 1) h' → IsTupOf2 h' s.heap.objs.size x1 x2 → h'.objs.size = s.heap.objs.size + 1 → (∃ o, h'.get? TO = some o) →
        (∀ c o, c ≠ z → c ≠ TO → c ≠ i1 → c ≠ i2 → s.heap.get? c = some o → h'.get? c = some o) →
        wpAny (model P w) A.in1 (updateSeq S (·.push (.ref s.heap.objs.size)) >>= fun _ => again (.builtin "list.extend.loop" ⟨[.ref S, .ref z, res], []⟩)) (fun fin s' => match fin with | .done f => R (.ok f) s' | .again c' => c'.quiet = true ∧ codeAny (model P w) A c' R s') (fun e s' => R (.error e) s') { s with heap := h', toks := tk } := by
      intro x1 x2 h' tk T0 b0 hx1 hx2 hz' hT0 st1 st2 hT' hsz eO' kp
      obtain ⟨c, eS⟩ := I.lst
      have eS' := kp _ _ hSz hSO hS1 hS2 eS
      have ltS : S < s.heap.objs.size := Heap.lt_size eS
      have lz : ∀ {c o}, s.heap.get? c = some o → s.heap.objs.size ≠ c := fun e => Nat.ne_of_gt (Heap.lt_size e)
      have ez : ∃ o, s.heap.get? z = some o := by
        rcases I.zip with ⟨_, hz, _⟩ | ⟨_, _, _, hz⟩
        · exact ⟨_, hz⟩
        · exact ⟨_, hz⟩
      obtain ⟨oO, eO⟩ := I.eo
      obtain ⟨oz, ez⟩ := ez
      obtain ⟨o1, e1⟩ := D1.live _ _ I.st1
      obtain ⟨o2, e2⟩ := D2.live _ _ I.st2
      have accz : (Ts.map Value.ref).toArray.size = i := by simp [I.len]
      have oth : ∀ c o, c ≠ S → h'.get? c = some o → (h'.update S (Obj.mapSeq (·.push (.ref s.heap.objs.size)))).get? c = some o := fun c o hc e => (Heap.get?_update_other _ _ (Ne.symm hc)).trans e
      refine wpAny_bind (wpAny_updateSeq eS' rfl (wpAny_pure ⟨plainId_quiet PySem.F.plain_extend_loop _, ih (i + 1) _ (Ts ++ [s.heap.objs.size]) (by omega) (by omega) (by omega) ?_ ?_⟩) ?_ ?_)
      · refine ⟨.inr ⟨T0, b0, hT0, oth _ _ hSz.symm hz'⟩, oth _ _ hSI.symm (kp _ _ Z.TIz Z.TITO Z.TIi1 Z.TIi2 I.ti), ?_, D1.frame _ _ _ st1 fun b hb o e => oth b o (fun q => f1 (q ▸ hb)) e, D2.frame _ _ _ st2 fun b hb o e => oth b o (fun q => f2 (q ▸ hb)) e, by simp [I.len], ?_, fun j T e => ?_, fun T hT => ?_, ?_, fun b o hb e => ?_⟩
        · obtain ⟨o, e⟩ := eO'
          exact ⟨o, oth _ _ hSO.symm e⟩
        · have e := Heap.get?_update_self (Obj.mapSeq (·.push (.ref s.heap.objs.size))) eS' rfl
          have el : ((Ts ++ [s.heap.objs.size]).map Value.ref).toArray = (Ts.map Value.ref).toArray.push (.ref s.heap.objs.size) := by simp
          rw [el]
          exact ⟨_, e⟩
        · rcases Nat.lt_or_ge j Ts.length with q | q
          · rw [List.getElem?_append_left q] at e
            obtain ⟨x, y, a1, a2, a3⟩ := I.tup j T e
            have nw := I.new T (List.mem_of_getElem? e)
            exact ⟨x, y, a1, a2, oth _ _ nw.2.2.2.2.2.2 (kp _ _ nw.2.2.1 nw.2.2.2.1 nw.2.2.2.2.1 nw.2.2.2.2.2.1 a3)⟩
          · rw [List.getElem?_append_right q] at e
            have ej : j - Ts.length = 0 := by
              refine Nat.eq_zero_of_not_pos fun p => ?_
              rw [List.getElem?_eq_none (by simp; omega)] at e
              cases e
            rw [ej] at e
            have : s.heap.objs.size = T := by simpa using e
            subst this
            have : j = i := by have := I.len; omega
            subst this
            exact ⟨x1, x2, hx1, hx2, oth _ _ (Nat.ne_of_gt ltS) hT'⟩
        · have hsz2 : (h'.update S (Obj.mapSeq (·.push (.ref s.heap.objs.size)))).objs.size = s.heap.objs.size + 1 := by rw [Heap.size_update, hsz]
          rcases List.mem_append.mp hT with q | q
          · have nw := I.new T q
            exact ⟨nw.1, by rw [hsz2]; exact Nat.lt_succ_of_lt nw.2.1, nw.2.2⟩
          · rw [List.mem_singleton.mp q]
            exact ⟨Nat.le_trans hm.2.2.2.2.2 (Nat.le_of_lt ltS), by rw [hsz2]; exact Nat.lt_succ_self _, lz ez, lz eO, lz e1, lz e2, Nat.ne_of_gt ltS⟩
        · refine List.nodup_append.mpr ⟨I.nd, by simp, fun a ha b hb => ?_⟩
          rw [List.mem_singleton.mp hb]
          exact Nat.ne_of_lt (I.new a ha).2.1
        · have bS : b ≠ S := fun q => by rw [q] at hb; exact Nat.not_lt.mpr hm.2.2.2.2.2 hb
          exact oth _ _ bS (kp _ _ (fun q => by rw [q] at hb; exact Nat.not_lt.mpr hm.1 hb) (fun q => by rw [q] at hb; exact Nat.not_lt.mpr hm.2.2.1 hb) (fun q => by rw [q] at hb; exact Nat.not_lt.mpr hm.2.2.2.1 hb) (fun q => by rw [q] at hb; exact Nat.not_lt.mpr hm.2.2.2.2.1 hb) (I.old b o hb e))
      · intro h2 tk2 Ts2 a1 a2 a3 a4 a5 a6
        exact hR h2 tk2 Ts2 a1 a2 a3 a4 a5 a6
      · rw [accz]
        have : sizeLine = 16777216 := rfl
        omega
      · show ((Ts.map Value.ref).toArray.push _).size ≤ sizeLine + 1
        rw [Array.size_push, accz]
        have : sizeLine = 16777216 := rfl
        omega
    rcases I.zip with ⟨e, hz, a, b, hO⟩ | ⟨T, b, hT, hz⟩
    · refine wpAny_bind (wpAny_pyNext_zipD2_item Z D1 D2 hz I.ti hO I.st1 I.st2 hlt1 hlt2 fun x1 x2 h' tk y1 y2 b1 b2 d1 d2 b5 b6 b7 => ?_)
      exact go x1 x2 h' tk s.heap.objs.size false y1 y2 b1 (by simp) d1 d2 b5 b6 ⟨_, b2⟩ b7
    · obtain ⟨j, hj, ej⟩ := List.getElem_of_mem hT
      obtain ⟨x, y, _, _, eT⟩ := I.tup j T (by rw [List.getElem?_eq_getElem hj, ej])
      have kO : ∀ {h' : Heap}, St1 (i + 1) h' → St2 (i + 1) h' → (∀ c o, c ≠ z → c ≠ i1 → c ≠ i2 → s.heap.get? c = some o → h'.get? c = some o) → ∃ o, h'.get? TO = some o := fun _ _ kp => by
        obtain ⟨o, e⟩ := I.eo
        exact ⟨o, kp _ _ Z.TOz (fun q => Z.Tf1 (q ▸ Z.mem1)) (fun q => Z.Tf2 (q ▸ Z.mem2)) e⟩
      refine wpAny_bind (py_zk_next Z D1 D2 hz eT I.ti I.st1 I.st2 hlt1 hlt2 fun x1 x2 h' tk y1 y2 b1 d1 d2 b5 b6 b7 => ?_)
      exact go x1 x2 h' tk T true y1 y2 b1 (by simp [hT]) d1 d2 b5 b6 (kO d1 d2 b7) fun c o c1 _ c3 c4 e => b7 c o c1 c3 c4 e
end Mi
end
end
section
set_option Elab.async false
set_option linter.all false
set_option maxRecDepth 100000
set_option maxHeartbeats 3200000
/-! N6: list(z), z a zip. -/
section
open PySem PyProof.Rows
namespace Mi
theorem zip_nlen : typeLookup (.type "zip") "__len__" = pure none := by rw [typeLookup_type, builtinLookup_eq_fast]; kernel_rfl
theorem zip_nhint : typeLookup (.type "zip") "__length_hint__" = pure none := by rw [typeLookup_type, builtinLookup_eq_fast]; kernel_rfl
variable {P : Program} {w : World} {A : Around} {E : Value → Shared → Prop} {s : Shared} {z TI TO i1 i2 S : Addr} {fp1 fp2 : List Addr} {m0 : Addr} {n1 n2 : Nat} {P1 P2 : Nat → Value → Prop} {St1 St2 : Nat → Heap → Prop} {h0 : Heap}
theorem ZL.go {h h' : Heap} (D1 : Draws P w A i1 fp1 n1 P1 St1) (D2 : Draws P w A i2 fp2 n2 P2 St2) (hS : S ∉ z :: TI :: TO :: (fp1 ++ fp2)) (hm : m0 ≤ S) (I : ZL z TI TO S i1 i2 m0 P1 P2 St1 St2 h0 0 [] h)
    (k : ∀ b o, b ≠ S → h.get? b = some o → h'.get? b = some o) (l : ∃ c, h'.get? S = some ⟨.type "list", none, .seq #[] c, #[]⟩) : ZL z TI TO S i1 i2 m0 P1 P2 St1 St2 h0 0 [] h' := by
  have hSz : z ≠ S := fun q => hS (by rw [← q]; simp)
  have hSI : TI ≠ S := fun q => hS (by rw [← q]; simp)
  have hSO : TO ≠ S := fun q => hS (by rw [← q]; simp)
  refine ⟨?_, k _ _ hSI I.ti, ?_, D1.frame _ _ _ I.st1 fun b hb o e => k b o (fun q => hS (by rw [← q]; simp [hb])) e, D2.frame _ _ _ I.st2 fun b hb o e => k b o (fun q => hS (by rw [← q]; simp [hb])) e, rfl, l, fun j T e => (by simp at e), fun T hT => (by cases hT), List.nodup_nil, fun b o hb e => ?_⟩
  · rcases I.zip with ⟨_, hz, a, b, hO⟩ | ⟨T, b, hT, _⟩
    · exact .inl ⟨rfl, k _ _ hSz hz, a, b, k _ _ hSO hO⟩
    · cases hT
  · obtain ⟨o, e⟩ := I.eo
    exact ⟨o, k _ _ hSO e⟩
  · exact k b o (fun q => by rw [q] at hb; exact Nat.not_lt.mpr hm hb) (I.old b o hb e)
/-- what list(z) ends with -/
abbrev ZE (S m0 : Addr) (n : Nat) (P1 P2 : Nat → Value → Prop) (h0 h' : Heap) (Ts : List Addr) : Prop :=
  Ts.length = n ∧ (∃ c, h'.get? S = some ⟨.type "list", none, .seq (Ts.map Value.ref).toArray c, #[]⟩) ∧ (∀ j T, Ts[j]? = some T → ∃ x y, P1 j x ∧ P2 j y ∧ IsTupOf2 h' T x y) ∧ (∀ T ∈ Ts, m0 ≤ T ∧ T ≠ S) ∧ Ts.Nodup ∧ ∀ b o, b < m0 → h0.get? b = some o → h'.get? b = some o
theorem zl_extend (Z : ZipSep2 z TI TO i1 i2 fp1 fp2) (D1 : Draws P w A.in1.in1 i1 fp1 n1 P1 St1) (D2 : Draws P w A.in1.in1 i2 fp2 n2 P2 St2) (hS : S ∉ z :: TI :: TO :: (fp1 ++ fp2)) (hm : m0 ≤ z ∧ m0 ≤ TI ∧ m0 ≤ TO ∧ m0 ≤ i1 ∧ m0 ≤ i2 ∧ m0 ≤ S) (hn : min n1 n2 < 1000000) {R : Result → Shared → Prop} (res : Value)
    (I : ZL z TI TO S i1 i2 m0 P1 P2 St1 St2 h0 0 [] s.heap) (hR : ∀ (h' : Heap) (tk : Nat) (Ts : List Addr), ZE S m0 (min n1 n2) P1 P2 h0 h' Ts → R (.ok (.ret res)) { s with heap := h', toks := tk }) :
    wpAny (model P w) A.in1 (Builtin.List.listExtendWith (.ref S) (.ref z) res) (fun fin s' => match fin with | .done f => R (.ok f) s' | .again c' => c'.quiet = true ∧ codeAny (model P w) A c' R s') (fun e s' => R (.error e) s') s := by
  obtain ⟨c, eS⟩ := I.lst
  have hz : IsZip s.heap z TI TO .none := by
    rcases I.zip with ⟨_, hz, _⟩ | ⟨T, b, hT, _⟩
    · exact hz
    · cases hT
  have ty : s.TypeIs (.ref z) "zip" := ⟨_, hz, rfl⟩
  have hSz : S ≠ z := fun q => hS (by rw [q]; simp)
  unfold Builtin.List.listExtendWith
  refine wpAny_bind (wpAny_typeOf ty ?_)
  have q1 : Builtin.List.listSameRef (.ref S) (.ref z) = false := by simp [Builtin.List.listSameRef, hSz]
  have q2 : (Value.type "zip" == Value.type "list") = false := by decide
  have q3 : (Value.type "zip" == Value.type "tuple") = false := by decide
  simp only [q1, q2, q3, Bool.or_false, Bool.false_eq_true, if_false]
  refine wpAny_bind (wpAny_pyIter_zip hz ?_)
  refine wpAny_bind (wpAny_holding ?_)
  unfold Builtin.List.listLengthHint
  refine wpAny_bind (wpAny_specialOf ty zip_nlen ?_)
  show wpAny _ A.in1 (specialOf (Value.ref z) (Str.ofString "__length_hint__") >>= _) _ _ _
  refine wpAny_bind (wpAny_specialOf ty zip_nhint (wpAny_pure ?_))
  show wpAny _ A.in1 (rule "list.extend.makes-room" >>= fun _ => Builtin.List.listTouch (.ref S) >>= fun _ => again (.builtin "list.extend.loop" ⟨[.ref S, .ref z, res], []⟩)) _ _ _
  refine wpAny_bind (wpAny_rule (wpAny_bind ?_))
  show wpAny _ A.in1 (updateSeq S (·.push .none) >>= fun _ => updateSeq S (·.pop)) _ _ _
  have u1 := Heap.get?_update_self (Obj.mapSeq (·.push Value.none)) eS rfl
  have u2 := Heap.get?_update_self (Obj.mapSeq (·.pop)) u1 rfl
  refine wpAny_bind (wpAny_updateSeq eS rfl ?_)
  refine wpAny_updateSeq (hz := by seq_fits) u1 rfl (wpAny_pure ⟨plainId_quiet PySem.F.plain_extend_loop _, zl_loop Z D1 D2 hS hm hn res (min n1 n2 - 0) 0 _ [] rfl (Nat.zero_le _) (Nat.zero_le _) (I.go D1 D2 hS hm.2.2.2.2.2 (fun b o hb e => (Heap.get?_update_other _ _ (Ne.symm hb)).trans ((Heap.get?_update_other _ _ (Ne.symm hb)).trans e)) ⟨_, u2⟩) fun h' tk Ts a1 a2 a3 a4 a5 a6 => hR h' tk Ts ⟨a1, a2, a3, a4, a5, a6⟩⟩)
theorem zl_init (Z : ZipSep2 z TI TO i1 i2 fp1 fp2) (D1 : Draws P w A.in1.in1 i1 fp1 n1 P1 St1) (D2 : Draws P w A.in1.in1 i2 fp2 n2 P2 St2) (hS : S ∉ z :: TI :: TO :: (fp1 ++ fp2)) (hm : m0 ≤ z ∧ m0 ≤ TI ∧ m0 ≤ TO ∧ m0 ≤ i1 ∧ m0 ≤ i2 ∧ m0 ≤ S) (hn : min n1 n2 < 1000000) {R : Result → Shared → Prop}
    (I : ZL z TI TO S i1 i2 m0 P1 P2 St1 St2 h0 0 [] s.heap) (hR : ∀ (h' : Heap) (tk : Nat) (Ts : List Addr), ZE S m0 (min n1 n2) P1 P2 h0 h' Ts → R (.ok (.ret .none)) { s with heap := h', toks := tk }) :
    wpAny (model P w) A.in1 (Builtin.«list.__init__» ⟨[.ref S, .ref z], []⟩) (fun fin s' => match fin with | .done f => R (.ok f) s' | .again c' => c'.quiet = true ∧ codeAny (model P w) A c' R s') (fun e s' => R (.error e) s') s := by
  obtain ⟨c, eS⟩ := I.lst
  show wpAny _ _ (do let old ← Builtin.List.listItems (.ref S); Builtin.List.listUpdate (.ref S) (fun _ => #[]); letGo old.toList.reverse; Builtin.List.listExtendWith (.ref S) (.ref z) .none) _ _ s
  refine wpAny_bind ?_
  unfold Builtin.List.listItems
  refine wpAny_bind (wpAny_seqItems eS rfl (wpAny_pure ?_))
  show wpAny _ _ (updateSeq S (fun _ => #[]) >>= fun _ => letGo (#[] : Array Value).toList.reverse >>= fun _ => Builtin.List.listExtendWith (.ref S) (.ref z) .none) _ _ s
  refine wpAny_bind (wpAny_updateSeq eS rfl ?_)
  have u1 := Heap.get?_update_self (Obj.mapSeq (fun _ => (#[] : Array Value))) eS rfl
  exact wpAny_bind (wpAny_letGo (zl_extend Z D1 D2 hS hm hn .none (I.go D1 D2 hS hm.2.2.2.2.2 (fun b o hb e => (Heap.get?_update_other _ _ (Ne.symm hb)).trans e) ⟨_, u1⟩) fun h' tk Ts a => hR h' tk Ts a))
theorem call_list_z (Z : ZipSep2 z TI TO i1 i2 fp1 fp2) (D1 : Draws P w A.in1.in1.in1 i1 fp1 n1 P1 St1) (D2 : Draws P w A.in1.in1.in1 i2 fp2 n2 P2 St2) (hS : s.heap.objs.size ∉ z :: TI :: TO :: (fp1 ++ fp2)) (hm : m0 ≤ z ∧ m0 ≤ TI ∧ m0 ≤ TO ∧ m0 ≤ i1 ∧ m0 ≤ i2 ∧ m0 ≤ s.heap.objs.size) (hn : min n1 n2 < 1000000)
    (hz : IsZip s.heap z TI TO .none) (hTI : IsTupOf2 s.heap TI (.ref i1) (.ref i2)) (hTO : ∃ a b, IsTupOf2 s.heap TO a b) (st1 : St1 0 s.heap) (st2 : St2 0 s.heap) (old : ∀ b o, b < m0 → h0.get? b = some o → s.heap.get? b = some o) {Q : Value → Shared → Prop}
    (hQ : ∀ (h' : Heap) (tk : Nat) (Ts : List Addr), ZE s.heap.objs.size m0 (min n1 n2) P1 P2 h0 h' Ts → Q (.ref s.heap.objs.size) { s with heap := h', toks := tk }) :
    wpAny (model P w) A (call (.type "list") [.ref z]) Q E s := by
  refine callType_codes (Q₁ := fun x t => x = .ref s.heap.objs.size ∧ t = { s with heap := s.heap.push { cls := .type "list", data := .seq #[] } }) PySem.F.called_list (PySem.F.typeCall_list_1 _) PySem.F.entry_list_init (code_list_new _ ⟨rfl, rfl⟩) fun x t ht => ?_
  obtain ⟨rfl, rfl⟩ := ht
  have eS : (s.heap.push { cls := .type "list", data := .seq #[] }).get? s.heap.objs.size = some { cls := .type "list", data := .seq #[] } := Heap.get?_push_size _ rfl
  have up : ∀ b o, s.heap.get? b = some o → (s.heap.push { cls := .type "list", data := .seq #[] }).get? b = some o := fun b o e => Heap.get?_push_of_some _ e
  obtain ⟨a, b, hTO⟩ := hTO
  refine ⟨⟨_, eS, rfl⟩, PySem.F.args_list_init_2 _ _, zl_init (m0 := m0) (h0 := h0) Z D1 D2 hS hm hn ⟨.inl ⟨rfl, up _ _ hz, a, b, up _ _ hTO⟩, up _ _ hTI, ⟨_, up _ _ hTO⟩, D1.frame _ _ _ st1 fun b _ o e => up b o e, D2.frame _ _ _ st2 fun b _ o e => up b o e, rfl, ⟨_, eS⟩, fun j T e => (by simp at e), fun T hT => (by cases hT), List.nodup_nil, fun b o hb e => up b o (old b o hb e)⟩ fun h' tk Ts a => ⟨rfl, hQ h' tk Ts a⟩⟩
end Mi
end
end
section
set_option Elab.async false
set_option linter.all false
set_option maxRecDepth 100000
set_option maxHeartbeats 2000000
/-! N7: list(zip(a, b)), its rule. -/
namespace Mi
open PySem PyProof.Rows
open L2 (V HO Hp upd upd_same upd_ne SqL SqT Rd Cx Inv PE PT PA PS PSs PG PGs PI TE TT TA TS TG TGs TI It VK XK Ends RelV Vals ne_of_none OpR R2 EP CallR UnR IxR SlR TruR Gl Vis Loc HOk)
theorem lay_zip {Pr : Program} {w : World} {K : Fg} {O : Addr → Prop} {ρ : Nat → Addr} {st : Sr} {h' : Heap} : ∀ (Ts : List Addr) (vs us : List V) (ds es : List P) (its jts : List Value) (H : Hp), Ts.length = min vs.length us.length → (∀ T ∈ Ts, H T = none) → Ts.Nodup → Vals vs its → Vals us jts →
    (∀ (j : Nat) (T : Addr), Ts[j]? = some T → ∃ (x y : Value), its[j]? = some x ∧ jts[j]? = some y ∧ IsTupOf2 h' T x y) → ReqP K (Mt O ρ st) H ds vs → ReqP K (Mt O ρ st) H es us → RelS K O ρ H st → HOk Pr w H h' →
    ∃ H', HOk Pr w H' h' ∧ Stp ρ st H ρ st H' ∧ RelS K O ρ H' st ∧ ReqP K (Mt O ρ st) H' (zpP ds es) (Ts.map V.ref) ∧ (∀ b, b ∉ Ts → H' b = H b)
  | [], vs, us, ds, es, its, jts, H, hl, hN, nd, r1, r2, ht, q1, q2, S, ok => by
    refine ⟨H, ok, .rfl, S, ?_, fun _ _ => rfl⟩
    cases q1 with
    | nil => exact .nil
    | cons _ _ => cases q2 with
      | nil => exact .nil
      | cons _ _ => simp at hl
  | T :: Ts, vs, us, ds, es, its, jts, H, hl, hN, nd, r1, r2, ht, q1, q2, S, ok => by
    cases q1 with
    | nil => simp at hl
    | @cons d1 ds v1 vs a1 q1 => cases q2 with
      | nil => simp at hl
      | @cons d2 es u1 us a2 q2 =>
        cases r1 with
        | cons e1 r1 => cases r2 with
          | cons e2 r2 =>
            obtain ⟨nd1, nd2⟩ := List.nodup_cons.mp nd
            obtain ⟨x, y, g1, g2, g3⟩ := ht 0 T rfl
            simp at g1 g2
            subst g1 g2
            have hT := hN T List.mem_cons_self
            have ok1 : HOk Pr w (upd H T (.tup [v1, u1])) h' := L2.HOk.laidN ok (fun _ _ q => q) hT ⟨by simp [sizeLine], [_, _], .cons e1 (.cons e2 .nil), ⟨_, g3, rfl, _, rfl⟩⟩
            have S1 := S.new (o := .tup [v1, u1]) hT
            have s1 := Stp.new (o := .tup [v1, u1]) S hT
            obtain ⟨H', c1, c2, c3, c4, c5⟩ := lay_zip Ts vs us ds es _ _ (upd H T (.tup [v1, u1])) (by simpa using hl) (fun T' hT' => by
              have ne : T' ≠ T := fun q => nd1 (by rw [← q]; exact hT')
              rw [upd_ne ne]
              exact hN T' (List.mem_cons_of_mem _ hT')) nd2 r1 r2 (fun j T' e => ht (j + 1) T' e) (q1.stp S s1) (q2.stp S s1) S1 ok1
            refine ⟨H', c1, Stp.trans S S1 s1 c2, c3, .cons ?_ c4, fun b hb => ?_⟩
            · have := rep_newT (ρ := ρ) (st := st) S hT (.cons a1 (.cons a2 .nil))
              exact Rep.stp S1 c2 this
            · rw [c5 b fun q => hb (List.mem_cons_of_mem _ q), upd_ne (fun q => hb (by rw [q]; exact List.mem_cons_self) : b ≠ T)]
end Mi
end
section
set_option Elab.async false
set_option linter.all false
set_option maxRecDepth 100000
set_option maxHeartbeats 2000000
/-! N8: list(zip(a, b)), its rule. -/
namespace Mi
open PySem PyProof.Rows
open L2 (V HO Hp upd upd_same upd_ne SqL SqT Rd Cx Inv PE PT PA PS PSs PG PGs PI TE TT TA TS TG TGs TI It VK XK Ends RelV Vals ne_of_none OpR R2 EP CallR UnR IxR SlR TruR Gl Vis Loc HOk)
theorem zsep (m a b : Nat) (ha : a < m) (hb : b < m) : ZipSep2 (m + 4) (m + 2) (m + 3) m (m + 1) [m, a] [m + 1, b] :=
  ⟨Nat.ne_of_lt (by omega), Nat.ne_of_lt (by omega), Nat.ne_of_lt (by omega), Nat.ne_of_gt (by omega), List.mem_cons_self, fun q => by
    rcases List.mem_cons.mp q with q | q
    · exact Nat.ne_of_gt (by omega) q
    · exact Nat.ne_of_gt (by omega) (List.mem_singleton.mp q), fun q => by
    rcases List.mem_cons.mp q with q | q
    · exact Nat.ne_of_gt (by omega) q
    · exact Nat.ne_of_gt (by omega) (List.mem_singleton.mp q), Nat.ne_of_gt (by omega), List.mem_cons_self, fun q => by
    rcases List.mem_cons.mp q with q | q
    · exact Nat.ne_of_gt (by omega) q
    · exact Nat.ne_of_gt (by omega) (List.mem_singleton.mp q), fun q => by
    rcases List.mem_cons.mp q with q | q
    · exact Nat.ne_of_gt (by omega) q
    · exact Nat.ne_of_gt (by omega) (List.mem_singleton.mp q), fun q => by
    rcases List.mem_cons.mp q with q | q
    · exact Nat.ne_of_lt (by omega) q
    · exact Nat.ne_of_gt (by omega) (List.mem_singleton.mp q), fun q => by
    rcases List.mem_cons.mp q with q | q
    · exact Nat.ne_of_gt (by omega) q
    · exact Nat.ne_of_gt (by omega) (List.mem_singleton.mp q)⟩
theorem zfresh (m a b : Nat) (ha : a < m) (hb : b < m) : (m + 5) ∉ (m + 4) :: (m + 2) :: (m + 3) :: ([m, a] ++ [m + 1, b]) := by
  simp
  omega
theorem vals_len : ∀ {vs : List V} {us : List Value}, Vals vs us → us.length = vs.length := fun h => h.length.symm
theorem req_len {K : Fg} {m : Addr → Prop} {H : Hp} : ∀ {ds : List P} {vs : List V}, ReqP K m H ds vs → ds.length = vs.length
  | _, _, .nil => rfl
  | _, _, .cons _ r => by simp [req_len r]
theorem xLzp {T0 T1 : T} {p0 p1 p2 : Pos} (hc : C.calm = true) (hg : Gl C "list") (hm : C.mg "list" = none) (hg2 : Gl C "zip") (hm2 : C.mg "zip" = none) (hs : ns T1 = true) (ha : PA C (toE T0 :: toEs T1) (TrA C.K W fs)) :
    PE C (.Call (.Name "list" p0) [.Call (.Name "zip" p1) (toE T0 :: toEs T1) [] p2] [] pos) (TrE C.K W fun e s => opL lzpP (fs e s)) := by
  refine ⟨fun pins s σ H Q I ⟨O, ρ, e, st, R, h⟩ => ?_⟩
  refine PyProof.Rows.Call_ (L2.ld_blt I hg hm PyProof.Rows.boot_list (PyProof.Rows.callWith_type1 (PyProof.Rows.args_cons ?_ rfl) rfl rfl))
  refine PyProof.Rows.Call_ (L2.ld_blt I hg2 hm2 (show bootBuiltins "zip" = some (.type "zip") by decide +kernel) ?_)
  refine PyProof.Rows.callWith_type1 (L2.thn (ha.run p2 pins s σ H (fun vs H1 => ∃ (ρ1 : Nat → Addr) (st1 : Sr) (as : List P) (c : P), RelS C.K O ρ1 H1 st1 ∧ lzpP as = some c ∧ RdPs C.K (Mt O ρ1 st1) H1 as vs ∧ ∀ H2 v, Stp ρ1 st1 H1 ρ1 st1 H2 → RelS C.K O ρ1 H2 st1 → RepP C.K (Mt O ρ1 st1) H2 c v → Q v H2) I ⟨O, ρ, e, st, R, End.bd R.S h fun xs st1 ρ1 H1 vs _ s1 S1 r1 h1 => ?_⟩) fun us s1 ⟨vs, H1, I1, r1, ρ1, st1, as, c, S1, e1, rd, q⟩ => ?_) (star_cons _ _ _) (by rw [back_any]; exact ns_star _ hs _)
  · split at h1
    · rename_i as e1
      split at h1
      · rename_i c e3
        exact ⟨ρ1, st1, as, c, S1, e3, ddL_rd S1 r1 e1, fun H2 v s2 S2 r2 => h1 ρ1 H2 v s2 S2 r2⟩
      · exact h1.elim
    · exact h1.elim
  · unfold lzpP at e1
    split at e1
    · rename_i xs ys
      split at e1
      · rename_i hn
        cases e1
        obtain ⟨y, z, rfl, hy, hz⟩ := RdPs.two (C := C) rd
        obtain ⟨a, vs1, rfl, l1, k1⟩ := hy.tup
        obtain ⟨b, vs2, rfl, l2, k2⟩ := hz.tup
        cases r1 with
        | cons r rr =>
          cases rr with
          | cons r' rr =>
            cases rr
            cases r
            cases r'
            obtain ⟨its, v1, t1, z1⟩ := I1.tuple l1
            obtain ⟨jts, v2, t2, z2⟩ := I1.tuple l2
            have la : a < s1.heap.objs.size := by obtain ⟨o, e, _⟩ := t1; exact Heap.lt_size e
            have lb : b < s1.heap.objs.size := by obtain ⟨o, e, _⟩ := t2; exact Heap.lt_size e
            have n1 := vals_len v1
            have n2 := vals_len v2
            have m1 := req_len k1
            refine zip_begins2 (begins_tuple a its.toArray) (begins_tuple b jts.toArray) t1 t2 fun h1 y1 y2 y3 y4 y5 y6 y7 => PyProof.Rows.args_nil ?_
            have hh3 : C.A.in1.in1.in1.handled = none := by simp [I1.ok.hd hc]
            have fr := zfresh s1.heap.objs.size a b la lb
            rw [← y6] at fr
            refine call_list_z (s := { s1 with heap := h1 }) (m0 := s1.heap.objs.size) (h0 := s1.heap) (zsep s1.heap.objs.size a b la lb) (Draws.tuple hh3 s1.heap.objs.size a (Nat.ne_of_lt la) its.toArray) (Draws.tuple hh3 (s1.heap.objs.size + 1) b (Nat.ne_of_lt (Nat.lt_succ_of_lt lb)) jts.toArray) fr
              ⟨Nat.le_add_right _ _, Nat.le_add_right _ _, Nat.le_add_right _ _, Nat.le_refl _, Nat.le_add_right _ _, by show _ ≤ h1.objs.size; rw [y6]; exact Nat.le_add_right _ _⟩ ?_ y1 y2 ⟨_, _, y3⟩ ⟨⟨_, y4, rfl, rfl⟩, ?_⟩ ⟨⟨_, y5, rfl, rfl⟩, ?_⟩ (fun b o _ e => y7 b o e) fun h2 tk Ts ⟨c1, c2, c3, c4, c5, c6⟩ => ?_
            · have e1 : its.toArray.size = xs.length := by rw [List.size_toArray, n1, m1]
              rw [e1]
              omega
            · obtain ⟨o, e, r⟩ := t1
              exact ⟨o, y7 _ _ e, r⟩
            · obtain ⟨o, e, r⟩ := t2
              exact ⟨o, y7 _ _ e, r⟩
            · have fr1 : ∀ T, s1.heap.objs.size ≤ T → H1 T = none := fun T hT => I1.hok.fresh hT
              have hok0 : HOk C.prog C.w H1 h2 := I1.hok.kept fun b u e => c6 b u (Heap.lt_size e) e
              obtain ⟨H', d1, d2, d3, d4, d5⟩ := lay_zip (Pr := C.prog) (w := C.w) (K := C.K) (O := O) (ρ := ρ1) (st := st1) Ts vs1 vs2 xs ys its jts H1 (by rw [c1, List.size_toArray, List.size_toArray, n1, n2]) (fun T hT => fr1 T (c4 T hT).1) c5 v1 v2 (fun j T e => by
                obtain ⟨x, y, g1, g2, g3⟩ := c3 j T e
                exact ⟨x, y, by simpa using g1, by simpa using g2, g3⟩) k1 k2 S1 hok0
              have lS : s1.heap.objs.size ≤ h1.objs.size := by rw [y6]; exact Nat.le_add_right _ _
              have nS : h1.objs.size ∉ Ts := fun q => (c4 _ q).2 rfl
              have hS : H' h1.objs.size = none := by rw [d5 _ nS]; exact fr1 _ lS
              have tl : Ts.length ≤ sizeLine := by
                have : sizeLine = 16777216 := rfl
                have e1 : its.toArray.size = xs.length := by rw [List.size_toArray, n1, m1]
                rw [c1, e1]
                omega
              have vr : ∀ l : List Addr, Vals (l.map V.ref) (l.map Value.ref) := fun l => by
                induction l with
                | nil => exact .nil
                | cons x l ih => exact .cons rfl ih
              obtain ⟨cc, eL⟩ := c2
              have hok2 : HOk C.prog C.w (upd H' h1.objs.size (.lst (Ts.map V.ref))) h2 := L2.HOk.laidN d1 (fun _ _ q => q) hS ⟨by rw [List.length_map]; exact tl, _, cc, vr Ts, eL⟩
              have un : L2.Un (L2.frs C.stack) [] H1 (upd H' h1.objs.size (.lst (Ts.map V.ref))) s1.heap h2 := by
                have kk : ∀ b u, s1.heap.get? b = some u → h2.get? b = some u := fun b u e => c6 b u (Heap.lt_size e) e
                have bT : ∀ b, b < s1.heap.objs.size → b ∉ Ts ∧ b ≠ h1.objs.size := fun b hb => ⟨fun q => Nat.not_lt.mpr (c4 b q).1 hb, fun q => by rw [q] at hb; exact Nat.not_lt.mpr lS hb⟩
                have same : ∀ b, b < s1.heap.objs.size → upd H' h1.objs.size (.lst (Ts.map V.ref)) b = H1 b := fun b hb => by rw [upd_ne (bT b hb).2, d5 b (bT b hb).1]
                have some_lt : ∀ b o, H1 b = some o → upd H' h1.objs.size (.lst (Ts.map V.ref)) b = H1 b := fun b o e => by
                  refine same b ?_
                  refine Nat.lt_of_not_le fun q => ?_
                  rw [fr1 b q] at e
                  cases e
                exact ⟨fun b o e _ _ _ => kk b o e, fun b o e _ _ _ => ⟨o.slots, kk b o e⟩, fun b o e n _ => by rw [same b (Heap.lt_size e)]; exact n, fun b o e _ => ⟨o, kk b o e⟩, fun b xs e => by rw [some_lt b _ e]; exact e, fun b o u e => by rw [some_lt b _ e]; exact e, fun b ps e => ⟨#[], by rw [some_lt b _ e, e]; simp⟩⟩
              have J := I1.call (g' := s1.gens) (t' := tk) (d' := s1.drawn) (ch := []) un hok2 I1.bare (fun _ z => nomatch z)
              exact ⟨.ref h1.objs.size, _, J, rfl, q _ _ (Stp.trans S1 d3 d2 (Stp.new d3 hS)) (d3.new hS) (rep_newL d3 hS d4)⟩
      · cases e1
    · cases e1
end Mi
end
section
set_option Elab.async false
set_option linter.all false
set_option maxRecDepth 100000
set_option maxHeartbeats 2000000
/-! N9: pop(i), extend. -/
namespace Mi
open PySem PyProof.Rows
open L2 (V HO Hp upd upd_same upd_ne SqL SqT Rd Cx Inv PE PT PA PS PSs PG PGs PI TE TT TA TS TG TGs TI It VK XK Ends RelV Vals ne_of_none OpR R2 EP CallR UnR IxR SlR TruR Gl Vis Loc HOk)
section
variable {C : Cx} {W : Str → Option Addr → Hp → Prop} {fa : En → Sr → R Vl} {fs : En → Sr → R (List Vl)} {pos : Pos}
theorem ReqP.erase {K : Fg} {m : Addr → Prop} {H : Hp} {ds : List P} {vs : List V} (r : ReqP K m H ds vs) (k : Nat) : ReqP K m H (ds.eraseIdx k) (vs.eraseIdx k) := by
  rw [List.eraseIdx_eq_take_drop_succ, List.eraseIdx_eq_take_drop_succ]
  exact (r.take k).app (r.drop (k + 1))
theorem popV_ok {O : Addr → Prop} {ρ : Nat → Addr} {st st' : Sr} {H : Hp} {o : Vl} {ys : List Vl} {x : V} {us : List V} {y : P} (S : RelS C.K O ρ H st) (h : popV o ys st = some (y, st')) (ro : Rep C.K O ρ st H o x) (rs : Reps C.K O ρ st H ys us) :
    ∃ (l : Addr) (xs : List V) (i : Int) (k : Nat) (w : V), x = .ref l ∧ us = [.int i] ∧ H l = some (.lst xs) ∧ -(2 ^ 63) ≤ i ∧ i < 2 ^ 63 ∧ seqIndex? i xs.length = some k ∧ xs[k]? = some w ∧ Stp ρ st H ρ st' (upd H l (.lst (xs.eraseIdx k))) ∧ RelS C.K O ρ (upd H l (.lst (xs.eraseIdx k))) st' ∧ RepP C.K (Mt O ρ st) H y w := by
  unfold popV at h
  split at h
  · rename_i n i e1
    obtain ⟨hn, rfl⟩ := ro
    split at h
    · rename_i xs q
      split at h
      · rename_i k e2
        split at h
        · rename_i hl
          obtain ⟨z, hz, e3⟩ := Option.map_eq_some_iff.mp h
          cases e3
          obtain ⟨u, rfl, hu⟩ := RdPs.one (C := C) (ddL_rd S rs e1)
          obtain ⟨w, f1, vs, rfl, f2⟩ := S.ob n _ q
          obtain ⟨v, g1, g2⟩ := f2.get hz
          obtain ⟨b1, b2⟩ := plain_upd S q (f2.erase k)
          have e4 := f2.len
          rw [e4] at e2
          obtain ⟨s1, s2, s3, s4⟩ := L2.ixN_seq e2
          have hl' : (vs.length : Int) ≤ 1000000 := by rw [← e4]; unfold lim at hl; omega
          exact ⟨_, vs, i, k, v, rfl, by rw [hu.int], f1, by omega, by omega, s1, g1, b1, b2, g2⟩
        · cases h
      · cases h
    · cases h
  · cases h
theorem mExt : L2.MtR C "list.extend" (fun x vs H Q => ∃ l b xs zs, x = V.ref l ∧ vs = [V.ref b] ∧ H l = some (.lst xs) ∧ LsX C.K H b zs ∧ xs.length + zs.length ≤ sizeLine ∧ Q .non (upd H l (.lst (xs ++ zs)))) := by
  intro pins s σ H x vs v us Q I rx rv h
  obtain ⟨l, b, xs, zs, rfl, rfl, hH, hB, hz, q⟩ := h
  cases rx
  obtain ⟨u, rfl, ru⟩ := rv.one
  cases ru
  obtain ⟨z, its, n, r, hl, e⟩ := I.lstM hH
  obtain ⟨its2, n2, r2, e2, z2⟩ := hB.get I
  have hl2 : zs.length = its2.length := r2.length
  have hsz : its.toArray.size + its2.toArray.size ≤ sizeLine := by rw [List.size_toArray, List.size_toArray]; omega
  have hlong : ¬ (!its.toArray.isEmpty && Builtin.List.listTooLong (its.toArray.size + its2.toArray.size)) = true := by
    rw [L2.notLongL hsz, Bool.and_false]
    exact Bool.false_ne_true
  refine call_meets F.slot_list_extend ⟨_, e, rfl⟩ F.entry_list_extend (F.args_list_extend_2 _ _)
    (AutoSeq1.list_extend_list_list_0 l its.toArray n b its2.toArray n2 hlong (by rw [List.size_toArray]; omega) (by omega)) ⟨e, e2, ?_⟩
  refine ⟨.non, _, I.lset (its' := its ++ its2) hH e (by simp) (r.append r2) ?_, rfl, q⟩
  rw [List.length_append]
  omega
theorem extV_ok {O : Addr → Prop} {ρ : Nat → Addr} {st st' : Sr} {H : Hp} {o : Vl} {ys : List Vl} {x : V} {us : List V} (S : RelS C.K O ρ H st) (h : extV o ys st = some st') (ro : Rep C.K O ρ st H o x) (rs : Reps C.K O ρ st H ys us) :
    ∃ (l b : Addr) (xs zs : List V), x = .ref l ∧ us = [.ref b] ∧ H l = some (.lst xs) ∧ LsX C.K H b zs ∧ xs.length + zs.length ≤ sizeLine ∧ Stp ρ st H ρ st' (upd H l (.lst (xs ++ zs))) ∧ RelS C.K O ρ (upd H l (.lst (xs ++ zs))) st' := by
  unfold extV at h
  split at h
  · rename_i n es e1
    obtain ⟨hn, rfl⟩ := ro
    split at h
    · rename_i xs q
      split at h
      · rename_i hl
        cases h
        obtain ⟨u, rfl, hu⟩ := RdPs.one (C := C) (ddL_rd S rs e1)
        obtain ⟨b, zs, rfl, h1, r1⟩ := hu.list
        obtain ⟨w, f1, vs, rfl, f2⟩ := S.ob n _ q
        obtain ⟨b1, b2⟩ := plain_upd S q (f2.app r1)
        have e4 := f2.len
        have e5 := r1.len
        exact ⟨_, b, vs, zs, rfl, rfl, f1, h1, lim_line (by rw [← e4, ← e5]; exact hl), b1, b2⟩
      · cases h
    · cases h
  · cases h
theorem xPop {T0 T1 : T} {p0 : Pos} (hb : ∀ (nm : Str), attributeBase (toE T0) nm C.env (eval (toE T0) C.env) = eval (toE T0) C.env) (hl : (p0.endLine == pos.line) = true) (ho : PE C (toE T0) (TrE C.K W fa)) (hx : PA C [toE T1] (TrA C.K W fs)) :
    PE C (.Call (.Attribute (toE T0) (meN .pop) p0) [toE T1] [] pos) (TrE C.K W fun e s => (fa e s).bd fun o s => if isL o s = true then (fs e s).bd fun vs s => meV .pop o vs s else .no) :=
  imE (L2.pe_bm F.plainAttrs_list PySem.F.slot_list_pop PySem.F.type_list_pop L2.mt_popAt ho hx (hb _) (by rw [star_cons]; rfl) hl (star_cons _ _ _)) fun σ H Q ⟨O, ρ, e, st, R, h⟩ =>
    ⟨O, ρ, e, st, R, End.bd R.S h fun x st1 ρ1 H1 v _ s1 S1 r1 h1 => by
      split at h1
      · rename_i hx
        cases x with
        | p d => cases hx
        | r n =>
          refine ⟨tyR S1 r1 hx, O, ρ1, e, st1, R.go s1 S1, End.bd S1 h1 fun ys st2 ρ2 H2 us _ s2 S2 r2 h2 => ?_⟩
          simp only [meV] at h2
          split at h2
          · rename_i y st' q
            obtain ⟨l, xs, i, k, w, e1, e2, e3, e4, e5, e6, e7, t1, t2, t3⟩ := popV_ok S2 q (Rep.stp S1 s2 r1) r2
            exact ⟨l, xs, i, k, w, e1, e2, e3, e4, e5, e6, e7, h2 ρ2 _ _ t1 t2 (Rep.stp S2 t1 t3)⟩
          · exact h2.elim
      · exact h1.elim⟩
theorem xExt {T0 T1 : T} {p0 : Pos} (hb : ∀ (nm : Str), attributeBase (toE T0) nm C.env (eval (toE T0) C.env) = eval (toE T0) C.env) (hl : (p0.endLine == pos.line) = true) (ho : PE C (toE T0) (TrE C.K W fa)) (hx : PA C [toE T1] (TrA C.K W fs)) :
    PE C (.Call (.Attribute (toE T0) (meN .ext) p0) [toE T1] [] pos) (TrE C.K W fun e s => (fa e s).bd fun o s => if isL o s = true then (fs e s).bd fun vs s => meV .ext o vs s else .no) :=
  imE (L2.pe_bm F.plainAttrs_list PySem.F.slot_list_extend PySem.F.type_list_extend mExt ho hx (hb _) (by rw [star_cons]; rfl) hl (star_cons _ _ _)) fun σ H Q ⟨O, ρ, e, st, R, h⟩ =>
    ⟨O, ρ, e, st, R, End.bd R.S h fun x st1 ρ1 H1 v _ s1 S1 r1 h1 => by
      split at h1
      · rename_i hx
        cases x with
        | p d => cases hx
        | r n =>
          refine ⟨tyR S1 r1 hx, O, ρ1, e, st1, R.go s1 S1, End.bd S1 h1 fun ys st2 ρ2 H2 us _ s2 S2 r2 h2 => ?_⟩
          simp only [meV] at h2
          split at h2
          · rename_i st' q
            obtain ⟨l, b, xs, zs, e1, e2, e3, e4, e5, t1, t2⟩ := extV_ok S2 q (Rep.stp S1 s2 r1) r2
            exact ⟨l, b, xs, zs, e1, e2, e3, e4, e5, h2 ρ2 _ _ t1 t2 .non⟩
          · exact h2.elim
      · exact h1.elim⟩
end
end Mi
end
section
set_option Elab.async false
set_option linter.all false
set_option maxRecDepth 100000
set_option maxHeartbeats 3200000
/-! N10: zip's next, whatever became of the tuple it handed out first. -/
section
open PySem PyProof.Rows
namespace Mi
variable {P : Program} {w : World} {A : Around} {E : Value → Shared → Prop} {s : Shared} {z TI TO i1 i2 : Addr} {fp1 fp2 : List Addr} {n1 n2 : Nat} {P1 P2 : Nat → Value → Prop} {St1 St2 : Nat → Heap → Prop} {a1 a2 : Value} {i : Nat}
abbrev Zs (h : Heap) (z TI TO : Addr) (o : Value) (b : Bool) : Prop := h.get? z = some ⟨.type "zip", none, .fields #[o, .bool b, .bool false, .ref TI, .ref TO], #[]⟩
theorem zf_free {T : Addr} {b : Bool} {Q : Bool → Shared → Prop} (hz : Zs s.heap z TI TO (rawInt T) b) (hT : s.heap.get? T = none) (hQ : Q true s) : wpAny (model P w) A (Builtin.SmallTypes.ownedTupleIsFree (.ref z)) Q E s := by
  unfold Builtin.SmallTypes.ownedTupleIsFree
  refine wpAny_bind (wpAny_field hz rfl (x := rawInt T) rfl ?_)
  show wpAny _ _ (loadIfAlive (Int.toNat (T : Nat)) >>= _) _ _ _
  rw [Int.toNat_natCast]
  have h' : ∀ {R : Option Obj → Shared → Prop}, R none s → wpAny (model P w) A (loadIfAlive T) R E s := fun {R} r => by
    have r' : R (s.heap.get? T) s := by rw [hT]; exact r
    exact fun _ _ _ => r'
  refine wpAny_bind (h' ?_)
  simp only [Option.isNone_none, if_true]
  exact wpAny_pure hQ
theorem zf_next {T : Addr} {b : Bool} {Q : Value → Shared → Prop} (S : ZipSep2 z TI TO i1 i2 fp1 fp2) (D1 : Draws P w A i1 fp1 n1 P1 St1) (D2 : Draws P w A i2 fp2 n2 P2 St2)
    (hz : Zs s.heap z TI TO (rawInt T) b) (hT : s.heap.get? T = none) (hTI : IsTupOf2 s.heap TI (.ref i1) (.ref i2)) (hTO : IsTupOf2 s.heap TO a1 a2) (st1 : St1 i s.heap) (st2 : St2 i s.heap) (hlt1 : i < n1) (hlt2 : i < n2)
    (hQ : ∀ x1 x2 h' tk, P1 i x1 → P2 i x2 → Zs h' z TI TO (rawInt s.heap.objs.size) false → IsTupOf2 h' TO x1 x2 → St1 (i + 1) h' → St2 (i + 1) h' → IsTupOf2 h' s.heap.objs.size x1 x2 → h'.objs.size = s.heap.objs.size + 1 →
      (∀ c o, c ≠ z → c ≠ TO → c ≠ i1 → c ≠ i2 → s.heap.get? c = some o → h'.get? c = some o) → Q (.ref s.heap.objs.size) { s with heap := h', toks := tk }) :
    wpAny (model P w) A (Builtin.«zip.__next__» ⟨[.ref z], []⟩) (fun fin s' => ∃ v, fin = .done (.ret v) ∧ Q v s') E s := by
  obtain ⟨hp, g, d, tk0, os⟩ := s
  show wpAny _ _ (field (.ref z) 2 >>= _) _ _ _
  refine wpAny_bind (wpAny_field hz rfl (x := .bool false) rfl ?_)
  show wpAny _ _ (field (.ref z) 3 >>= _) _ _ _
  refine wpAny_bind (wpAny_field hz rfl (x := .ref TI) rfl ?_)
  refine wpAny_bind (wpAny_seqItems hTI rfl ?_)
  show wpAny _ _ (Builtin.SmallTypes.ownedTupleIsFree (.ref z) >>= _) _ _ _
  refine wpAny_bind (zf_free hz hT ?_)
  simp only [if_true]
  refine wpAny_bind (wpAny_rule ?_)
  refine wpAny_bind (wpAny_field hz rfl (x := .ref TO) rfl ?_)
  refine wpAny_bind (wpAny_setField_rec hz (by simp) fun g0 hz0 hs0 => ?_)
  replace hz0 : Zs g0 z TI TO .ellipsis b := hz0
  replace hs0 : Heap.SameBut z hp g0 := hs0
  refine wpAny_bind ?_
  simp only [List.zipIdx_cons, List.zipIdx_nil, List.forIn_cons, List.forIn_nil]
  refine wpAny_bind (wpAny_bind (wpAny_onRaise ?_))
  show wpAny _ _ (Builtin.SmallTypes.nextOf (.ref i1) >>= _) _ _ ⟨g0, g, d, tk0, os⟩
  refine wpAny_bind (D1.item i _ _ _ hlt1 (D1.over st1 hs0 S.zf1) fun x1 p1 tk1 hx1 sn1 hp1 => wpAny_pure ?_)
  replace hp1 : Heap.SameBut i1 g0 p1 := hp1
  have u1 : IsTupOf2 p1 TO a1 a2 := hp1.extBut _ _ S.Ti1 (hs0.extBut _ _ S.TOz hTO)
  refine wpAny_bind (wpAny_seqItems (s := ⟨p1, g, d, tk1, os⟩) u1 rfl ?_)
  refine wpAny_bind (updateSeq_IsTupOf2 (s := ⟨p1, g, d, tk1, os⟩) u1 fun g1 v1 hs1 => ?_)
  replace v1 : IsTupOf2 g1 TO x1 a2 := v1
  replace hs1 : Heap.SameBut TO p1 g1 := hs1
  refine wpAny_bind (wpAny_letGo (wpAny_pure ?_))
  refine wpAny_bind (wpAny_bind (wpAny_onRaise ?_))
  show wpAny _ _ (Builtin.SmallTypes.nextOf (.ref i2) >>= _) _ _ ⟨g1, g, d, tk1, os⟩
  refine wpAny_bind (D2.item i _ _ _ hlt2 (D2.over (D2.over (D2.over st2 hs0 S.zf2) hp1 S.sep1_2) hs1 S.Tf2) fun x2 p2 tk2 hx2 sn2 hp2 => wpAny_pure ?_)
  replace hp2 : Heap.SameBut i2 g1 p2 := hp2
  have u2 : IsTupOf2 p2 TO x1 a2 := hp2.extBut _ _ S.Ti2 v1
  refine wpAny_bind (wpAny_seqItems (s := ⟨p2, g, d, tk2, os⟩) u2 rfl ?_)
  refine wpAny_bind (updateSeq_IsTupOf2 (s := ⟨p2, g, d, tk2, os⟩) u2 fun g2 v2 hs2 => ?_)
  replace v2 : IsTupOf2 g2 TO x1 x2 := v2
  replace hs2 : Heap.SameBut TO p2 g2 := hs2
  refine wpAny_bind (wpAny_letGo (wpAny_pure (wpAny_pure ?_)))
  refine wpAny_bind (wpAny_seqItems (s := ⟨g2, g, d, tk2, os⟩) v2 rfl ?_)
  refine wpAny_bind (wpAny_newTuple ?_)
  have hsz : g2.objs.size = hp.objs.size := by rw [hs2.1, hp2.1, hs1.1, hp1.1, hs0.1]
  have hzz : Zs g2 z TI TO .ellipsis b := hs2.extBut _ _ S.TOz.symm (hp2.extBut _ _ S.zi2 (hs1.extBut _ _ S.TOz.symm (hp1.extBut _ _ S.zi1 hz0)))
  have kk : ∀ c o, c ≠ z → c ≠ TO → c ≠ i1 → c ≠ i2 → hp.get? c = some o → g2.get? c = some o := fun c o cz cT c1 c2 e =>
    hs2.extBut _ _ cT (hp2.extBut _ _ c2 (hs1.extBut _ _ cT (hp1.extBut _ _ c1 (hs0.extBut _ _ cz e))))
  have j1 : St1 (i + 1) g2 := D1.over (D1.over (D1.over sn1 hs1 S.Tf1) hp2 S.sep2_1) hs2 S.Tf1
  have j2 : St2 (i + 1) g2 := D2.over sn2 hs2 S.Tf2
  have zlt : z < g2.objs.size := Heap.lt_size hzz
  show wpAny _ _ (Builtin.SmallTypes.ownedTupleHandOut (.ref z) (.ref g2.objs.size) >>= _) _ _ ⟨g2.push { cls := .type "tuple", data := .seq #[x1, x2] }, g, d, tk2, os⟩
  refine wpAny_bind ?_
  unfold Builtin.SmallTypes.ownedTupleHandOut
  have hz6 : Zs (g2.push { cls := .type "tuple", data := .seq #[x1, x2] }) z TI TO .ellipsis b := Heap.get?_push_of_some _ hzz
  refine wpAny_bind (wpAny_setField_rec hz6 (by simp) fun h7 hz7 hs7 => ?_)
  replace hz7 : Zs h7 z TI TO (rawInt g2.objs.size) b := hz7
  refine wpAny_setField_rec hz7 (by simp) fun h8 hz8 hs8 => ?_
  replace hz8 : Zs h8 z TI TO (rawInt g2.objs.size) false := hz8
  replace hs7 : Heap.SameBut z (g2.push { cls := .type "tuple", data := .seq #[x1, x2] }) h7 := hs7
  replace hs8 : Heap.SameBut z h7 h8 := hs8
  have up : ∀ c o, c ≠ z → g2.get? c = some o → h8.get? c = some o := fun c o c1 e => hs8.extBut _ _ c1 (hs7.extBut _ _ c1 (Heap.get?_push_of_some _ e))
  have t8 : IsTupOf2 h8 g2.objs.size x1 x2 := hs8.extBut _ _ (Nat.ne_of_gt zlt) (hs7.extBut _ _ (Nat.ne_of_gt zlt) (Heap.get?_push_size _ rfl))
  have s8 : h8.objs.size = g2.objs.size + 1 := by rw [hs8.1, hs7.1, Heap.size_push]
  rw [hsz] at hz8 t8 s8
  refine wpAny_pure ⟨_, rfl, ?_⟩
  show Q (.ref g2.objs.size) ⟨h8, g, d, tk2, os⟩
  rw [hsz]
  exact hQ x1 x2 h8 tk2 hx1 hx2 hz8 (up _ _ S.TOz v2) (D1.frame _ _ _ j1 fun b hb o e => up b o (fun q => S.zf1 (q ▸ hb)) e) (D2.frame _ _ _ j2 fun b hb o e => up b o (fun q => S.zf2 (q ▸ hb)) e) t8 s8 fun c o cz cT c1 c2 e => up c o cz (kk c o cz cT c1 c2 e)
theorem zf_end {T : Addr} {b : Bool} {Q : Fin → Shared → Prop} (S : ZipSep2 z TI TO i1 i2 fp1 fp2) (D1 : Draws P w A i1 fp1 n1 P1 St1) (D2 : Draws P w A i2 fp2 n2 P2 St2)
    (hz : Zs s.heap z TI TO (rawInt T) b) (hT : s.heap.get? T = none) (hTI : IsTupOf2 s.heap TI (.ref i1) (.ref i2)) (hTO : IsTupOf2 s.heap TO a1 a2) (st1 : St1 i s.heap) (st2 : St2 i s.heap) (hle1 : i ≤ n1) (hle2 : i ≤ n2) (hend : i = n1 ∨ i = n2)
    (hE : ∀ h' tk e, (∀ c o, c ≠ z → c ≠ TO → c ≠ i1 → c ≠ i2 → s.heap.get? c = some o → h'.get? c = some o) → (∃ o, h'.get? e = some o ∧ o.cls = .type "StopIteration") → E (.ref e) { s with heap := h', toks := tk }) :
    wpAny (model P w) A (Builtin.«zip.__next__» ⟨[.ref z], []⟩) Q E s := by
  obtain ⟨hp, g, d, tk0, os⟩ := s
  show wpAny _ _ (field (.ref z) 2 >>= _) _ _ _
  refine wpAny_bind (wpAny_field hz rfl (x := .bool false) rfl ?_)
  show wpAny _ _ (field (.ref z) 3 >>= _) _ _ _
  refine wpAny_bind (wpAny_field hz rfl (x := .ref TI) rfl ?_)
  refine wpAny_bind (wpAny_seqItems hTI rfl ?_)
  show wpAny _ _ (Builtin.SmallTypes.ownedTupleIsFree (.ref z) >>= _) _ _ _
  refine wpAny_bind (zf_free hz hT ?_)
  simp only [if_true]
  refine wpAny_bind (wpAny_rule ?_)
  refine wpAny_bind (wpAny_field hz rfl (x := .ref TO) rfl ?_)
  refine wpAny_bind (wpAny_setField_rec hz (by simp) fun g0 hz0 hs0 => ?_)
  replace hz0 : Zs g0 z TI TO .ellipsis b := hz0
  replace hs0 : Heap.SameBut z hp g0 := hs0
  refine wpAny_bind ?_
  simp only [List.zipIdx_cons, List.zipIdx_nil, List.forIn_cons, List.forIn_nil]
  refine wpAny_bind (wpAny_bind (wpAny_onRaise ?_))
  show wpAny _ _ (Builtin.SmallTypes.nextOf (.ref i1) >>= _) _ _ ⟨g0, g, d, tk0, os⟩
  by_cases q1 : i < n1
  · refine wpAny_bind (D1.item i _ _ _ q1 (D1.over st1 hs0 S.zf1) fun x1 p1 tk1 hx1 sn1 hp1 => wpAny_pure ?_)
    replace hp1 : Heap.SameBut i1 g0 p1 := hp1
    have u1 : IsTupOf2 p1 TO a1 a2 := hp1.extBut _ _ S.Ti1 (hs0.extBut _ _ S.TOz hTO)
    refine wpAny_bind (wpAny_seqItems (s := ⟨p1, g, d, tk1, os⟩) u1 rfl ?_)
    refine wpAny_bind (updateSeq_IsTupOf2 (s := ⟨p1, g, d, tk1, os⟩) u1 fun g1 v1 hs1 => ?_)
    replace hs1 : Heap.SameBut TO p1 g1 := hs1
    refine wpAny_bind (wpAny_letGo (wpAny_pure ?_))
    have q2 : i = n2 := by omega
    refine wpAny_bind (wpAny_bind (wpAny_onRaise ?_))
    show wpAny _ _ (Builtin.SmallTypes.nextOf (.ref i2) >>= _) _ _ ⟨g1, g, d, tk1, os⟩
    refine wpAny_bind (D2.done ⟨g1, g, d, tk1, os⟩ _ _ (by rw [← q2]; exact D2.over (D2.over (D2.over st2 hs0 S.zf2) hp1 S.sep1_2) hs1 S.Tf2) fun q e hq he => ?_)
    replace hq : Heap.ExtBut i2 g1 q := hq
    obtain ⟨oe, hoe, hce⟩ := he
    replace hoe : q.get? e = some oe := hoe
    have hzq : Zs q z TI TO .ellipsis b := hq _ _ S.zi2 (hs1.extBut _ _ S.TOz.symm (hp1.extBut _ _ S.zi1 hz0))
    have hez : e ≠ z := fun x => by subst x; rw [hzq] at hoe; cases hoe; simp at hce
    refine wpAny_setField_rec (s := ⟨q, g, d, tk1, os⟩) hzq (by simp) fun q' _ hq' => ?_
    replace hq' : Heap.SameBut z q q' := hq'
    exact hE q' tk1 e (fun c o cz cT c1 c2 x => hq'.extBut _ _ cz (hq _ _ c2 (hs1.extBut _ _ cT (hp1.extBut _ _ c1 (hs0.extBut _ _ cz x))))) ⟨oe, hq'.extBut _ _ hez hoe, hce⟩
  · have q2 : i = n1 := by omega
    refine wpAny_bind (D1.done ⟨g0, g, d, tk0, os⟩ _ _ (by rw [← q2]; exact D1.over st1 hs0 S.zf1) fun q e hq he => ?_)
    replace hq : Heap.ExtBut i1 g0 q := hq
    obtain ⟨oe, hoe, hce⟩ := he
    replace hoe : q.get? e = some oe := hoe
    have hzq : Zs q z TI TO .ellipsis b := hq _ _ S.zi1 hz0
    have hez : e ≠ z := fun x => by subst x; rw [hzq] at hoe; cases hoe; simp at hce
    refine wpAny_setField_rec (s := ⟨q, g, d, tk0, os⟩) hzq (by simp) fun q' _ hq' => ?_
    replace hq' : Heap.SameBut z q q' := hq'
    exact hE q' tk0 e (fun c o cz cT c1 c2 x => hq'.extBut _ _ cz (hq _ _ c1 (hs0.extBut _ _ cz x))) ⟨oe, hq'.extBut _ _ hez hoe, hce⟩
/-- a zip as it stands between two turns -/
def Zok (h : Heap) (z TI TO : Addr) : Prop := (IsZip h z TI TO .none ∨ ∃ T b, IsZk h z TI TO T b) ∧ ∃ a b, IsTupOf2 h TO a b
theorem za_next {Q : Value → Shared → Prop} (S : ZipSep2 z TI TO i1 i2 fp1 fp2) (D1 : Draws P w A i1 fp1 n1 P1 St1) (D2 : Draws P w A i2 fp2 n2 P2 St2)
    (hz : Zok s.heap z TI TO) (hTI : IsTupOf2 s.heap TI (.ref i1) (.ref i2)) (st1 : St1 i s.heap) (st2 : St2 i s.heap) (hlt1 : i < n1) (hlt2 : i < n2)
    (hQ : ∀ x1 x2 h' tk, P1 i x1 → P2 i x2 → Zok h' z TI TO → St1 (i + 1) h' → St2 (i + 1) h' → IsTupOf2 h' s.heap.objs.size x1 x2 → h'.objs.size = s.heap.objs.size + 1 →
      (∀ c o, c ≠ z → c ≠ TO → c ≠ i1 → c ≠ i2 → s.heap.get? c = some o → h'.get? c = some o) → Q (.ref s.heap.objs.size) { s with heap := h', toks := tk }) :
    wpAny (model P w) A (Builtin.«zip.__next__» ⟨[.ref z], []⟩) (fun fin s' => ∃ v, fin = .done (.ret v) ∧ Q v s') E s := by
  obtain ⟨hz, a, b, hTO⟩ := hz
  rcases hz with hz | ⟨T, b0, hz⟩
  · exact zipD2_next_item S D1 D2 hz hTI hTO st1 st2 hlt1 hlt2 fun x1 x2 h' tk y1 y2 b1 b2 b3 b4 b5 b6 b7 => hQ x1 x2 h' tk y1 y2 ⟨.inr ⟨_, _, b1⟩, _, _, b2⟩ b3 b4 b5 b6 b7
  · cases hT : s.heap.get? T with
    | none => exact zf_next S D1 D2 hz hT hTI hTO st1 st2 hlt1 hlt2 fun x1 x2 h' tk y1 y2 b1 b2 b3 b4 b5 b6 b7 => hQ x1 x2 h' tk y1 y2 ⟨.inr ⟨_, _, b1⟩, _, _, b2⟩ b3 b4 b5 b6 b7
    | some o => exact zk_next S D1 D2 hz hT hTI st1 st2 hlt1 hlt2 fun x1 x2 h' tk y1 y2 b1 b3 b4 b5 b6 b7 => hQ x1 x2 h' tk y1 y2 ⟨.inr ⟨_, _, b1⟩, _, _, b7 _ _ S.TOz S.Ti1 S.Ti2 hTO⟩ b3 b4 b5 b6 fun c o c1 _ c3 c4 e => b7 c o c1 c3 c4 e
theorem za_end {Q : Fin → Shared → Prop} (S : ZipSep2 z TI TO i1 i2 fp1 fp2) (D1 : Draws P w A i1 fp1 n1 P1 St1) (D2 : Draws P w A i2 fp2 n2 P2 St2)
    (hz : Zok s.heap z TI TO) (hTI : IsTupOf2 s.heap TI (.ref i1) (.ref i2)) (st1 : St1 i s.heap) (st2 : St2 i s.heap) (hle1 : i ≤ n1) (hle2 : i ≤ n2) (hend : i = n1 ∨ i = n2)
    (hE : ∀ h' tk e, (∀ c o, c ≠ z → c ≠ TO → c ≠ i1 → c ≠ i2 → s.heap.get? c = some o → h'.get? c = some o) → (∃ o, h'.get? e = some o ∧ o.cls = .type "StopIteration") → E (.ref e) { s with heap := h', toks := tk }) :
    wpAny (model P w) A (Builtin.«zip.__next__» ⟨[.ref z], []⟩) Q E s := by
  obtain ⟨hz, a, b, hTO⟩ := hz
  rcases hz with hz | ⟨T, b0, hz⟩
  · exact zipD2_next_end S D1 D2 hz hTI hTO st1 st2 hle1 hle2 hend hE
  · cases hT : s.heap.get? T with
    | none => exact zf_end S D1 D2 hz hT hTI hTO st1 st2 hle1 hle2 hend hE
    | some o => exact zk_end S D1 D2 hz hT hTI st1 st2 hle1 hle2 hend fun h' tk e kp x => hE h' tk e (fun c o c1 _ c3 c4 e => kp c o c1 c3 c4 e) x
end Mi
end
end
section
set_option Elab.async false
set_option linter.all false
set_option maxRecDepth 100000
set_option maxHeartbeats 3200000
/-! N11: enumerate over a zip. -/
section
open PySem PyProof.Rows
open AutoSeq1 (wpAny_loadPart')
namespace Mi
theorem meets_ez (z TI TO : Addr) :
    Meets (Builtin.«enumerate.__new__» ⟨[.type "enumerate", .ref z], []⟩) (fun _ R s => IsZip s.heap z TI TO .none ∧
      R (.ok (.ret (.ref s.heap.objs.size))) { s with heap := s.heap.push { cls := .type "enumerate", data := .fields #[.none, .bool false, .ref z, rawInt 0, .none, .none] } }) :=
  .of_wp fun prog w A R s h => by
    obtain ⟨hp, g, d, tk, os⟩ := s; obtain ⟨hl, h⟩ := h
    have hsub := sub_enumerate
    have q1 : ∀ {A' : Around} {E : Value → Shared → Prop} {Q : Value → Shared → Prop}, Q (.ref z) ⟨hp, g, d, tk, os⟩ → wpAny (model prog w) A' (pyIter (.ref z)) Q E ⟨hp, g, d, tk, os⟩ := fun q => wpAny_pyIter_zip hl q
    wp_walk using wpAny_loadPart' hl
    refine wpAny_stack_any fun st => wpAny_pure ?_
    split
    · rename_i c _ _ _ _ _
      cases (c == Value.type "enumerate")
      · wp_walk using wpAny_loadPart' hl, q1
        exact ⟨_, rfl, h⟩
      · wp_walk using wpAny_loadPart' hl, q1
        exact ⟨_, rfl, h⟩
    · wp_walk using wpAny_loadPart' hl, q1
      exact ⟨_, rfl, h⟩
variable {P : Program} {w : World} {A : Around} {E : Value → Shared → Prop} {s : Shared} {z TI TO i1 i2 e : Addr} {fp1 fp2 : List Addr} {n1 n2 : Nat} {P1 P2 : Nat → Value → Prop} {St1 St2 : Nat → Heap → Prop} {i : Nat} {old : Value}
theorem call_ez {Q : Value → Shared → Prop} (hz : IsZip s.heap z TI TO .none)
    (h : ∀ h', IsEnum h' s.heap.objs.size z 0 .none → h'.objs.size = s.heap.objs.size + 1 → (∀ b o, s.heap.get? b = some o → h'.get? b = some o) → Q (.ref s.heap.objs.size) { s with heap := h' }) :
    wpAny (model P w) A (call (.type "enumerate") [.ref z]) Q E s := by
  refine callType_new F.called_enumerate (by decide) (F.typeCall_enumerate_1 _) (F.newCall_enumerate_1 _) (fun obj => F.args_object_init_2 obj _) F.entry_enumerate_new (meets_ez z TI TO) ⟨hz, ?_⟩
  have he : IsEnum (s.heap.push { cls := .type "enumerate", data := .fields #[.none, .bool false, .ref z, rawInt 0, .none, .none] }) s.heap.objs.size z 0 .none := Heap.get?_push_size _ rfl
  exact ⟨⟨_, he, rfl⟩, h _ he (by rw [Heap.size_push]) fun b o y => Heap.get?_push_of_some _ y⟩
theorem zok_ty (h : Zok s.heap z TI TO) : s.TypeIs (.ref z) "zip" := by
  obtain ⟨h | ⟨T, b, h⟩, _⟩ := h
  · exact ⟨_, h, rfl⟩
  · exact ⟨_, h, rfl⟩
theorem ez_next {Q : Value → Shared → Prop} (S : ZipSep2 z TI TO i1 i2 fp1 fp2) (D1 : Draws P w A.in1 i1 fp1 n1 P1 St1) (D2 : Draws P w A.in1 i2 fp2 n2 P2 St2)
    (he : IsEnum s.heap e z i old) (hz : Zok s.heap z TI TO) (hTI : IsTupOf2 s.heap TI (.ref i1) (.ref i2)) (st1 : St1 i s.heap) (st2 : St2 i s.heap) (hlt1 : i < n1) (hlt2 : i < n2) (ne1 : e ≠ z) (ne2 : e ≠ TO) (ne3 : e ≠ i1) (ne4 : e ≠ i2)
    (hQ : ∀ x1 x2 h1 h' tk, P1 i x1 → P2 i x2 → Zok h1 z TI TO → St1 (i + 1) h1 → St2 (i + 1) h1 → IsTupOf2 h1 s.heap.objs.size x1 x2 → h1.objs.size = s.heap.objs.size + 1 → (∀ c o, c ≠ z → c ≠ TO → c ≠ i1 → c ≠ i2 → s.heap.get? c = some o → h1.get? c = some o) →
      IsEnumOut h' e z ((i : Int) + 1) (.ref s.heap.objs.size) (s.heap.objs.size + 1) → h'.get? (s.heap.objs.size + 1) = some { cls := .type "tuple", data := .seq #[.int i tk, .ref s.heap.objs.size] } → h'.objs.size = s.heap.objs.size + 2 →
      (∀ b o, b ≠ e → h1.get? b = some o → h'.get? b = some o) → Q (.ref (s.heap.objs.size + 1)) { s with heap := h', toks := tk + 1 }) :
    wpAny (model P w) A (Builtin.«enumerate.__next__» ⟨[.ref e], []⟩) (fun fin s' => ∃ v, fin = .done (.ret v) ∧ Q v s') E s := by
  obtain ⟨hp, g, d, tk0, os⟩ := s
  show wpAny _ _ (field (.ref e) 2 >>= _) _ _ _
  refine wpAny_bind (wpAny_field he rfl (x := .ref z) rfl ?_)
  have hTy := zok_ty hz
  refine wpAny_bind ?_
  unfold Builtin.SmallTypes.nextOf
  refine wpAny_bind (wpAny_callSpecial?_slot (name := Str.ofString "__next__") hTy F.slot_zip_next (wpAny_call_entry F.slot_zip_next hTy F.entry_zip_next ?_ (F.args_zip_next_1 _)))
  refine za_next S D1 D2 hz hTI st1 st2 hlt1 hlt2 fun x1 x2 h1 tk hx1 hx2 z1 s1 s2 t1 sz1 k1 => wpAny_pure ?_
  have e1 : IsEnum h1 e z i old := k1 _ _ ne1 ne2 ne3 ne4 he
  show wpAny _ _ (field (.ref e) 3 >>= _) _ _ ⟨h1, g, d, tk, os⟩
  refine wpAny_bind (wpAny_field e1 rfl (x := rawInt i) rfl ?_)
  show wpAny _ _ (field (.ref e) 4 >>= _) _ _ ⟨h1, g, d, tk, os⟩
  refine wpAny_bind (wpAny_field e1 rfl (x := .none) rfl ?_)
  show wpAny _ _ (mkInt i >>= _) _ _ ⟨h1, g, d, tk, os⟩
  refine wpAny_bind (wpAny_mkInt ?_)
  show wpAny _ _ (setField (.ref e) 3 (rawInt ((i : Int) + 1)) >>= _) _ _ ⟨h1, g, d, tk + 1, os⟩
  refine wpAny_bind (wpAny_setField_rec e1 (by simp) fun h2 e2 b2 => ?_)
  replace b2 : Heap.SameBut e h1 h2 := b2
  replace e2 : IsEnum h2 e z ((i : Int) + 1) old := e2
  show wpAny _ _ (setField (.ref e) 4 .none >>= _) _ _ ⟨h2, g, d, tk + 1, os⟩
  refine wpAny_bind (wpAny_setField_rec e2 (by simp) fun h3 e3 b3 => ?_)
  replace b3 : Heap.SameBut e h2 h3 := b3
  replace e3 : IsEnum h3 e z ((i : Int) + 1) old := e3
  show wpAny _ _ (newTuple [.int i tk, .ref hp.objs.size] >>= _) _ _ ⟨h3, g, d, tk + 1, os⟩
  refine wpAny_bind (wpAny_newTuple ?_)
  have e4 : IsEnum (h3.push { cls := .type "tuple", data := .seq #[.int i tk, .ref hp.objs.size] }) e z ((i : Int) + 1) old := Heap.get?_push_of_some _ e3
  generalize hh4 : h3.push { cls := .type "tuple", data := .seq #[.int i tk, .ref hp.objs.size] } = h4 at e4
  have sz3 : h3.objs.size = hp.objs.size + 1 := by rw [b3.1, b2.1]; exact sz1
  have el : e < hp.objs.size := Heap.lt_size he
  have t4 : h4.get? (hp.objs.size + 1) = some { cls := .type "tuple", data := .seq #[.int i tk, .ref hp.objs.size] } := by rw [← hh4, ← sz3]; exact Heap.get?_push_size _ rfl
  have sz4 : h4.objs.size = hp.objs.size + 2 := by rw [← hh4, Heap.size_push, sz3]
  have k4 : ∀ b o, b ≠ e → h1.get? b = some o → h4.get? b = some o := fun b o hbe hb => by
    rw [← hh4]; exact Heap.get?_push_of_some _ (b3.extBut b o hbe (b2.extBut b o hbe hb))
  show wpAny _ _ (Builtin.SmallTypes.ownedTupleIsFree (.ref e) >>= _) _ _ ⟨h4, g, d, tk + 1, os⟩
  rw [sz3]
  have ne5 : hp.objs.size + 1 ≠ e := Nat.ne_of_gt (Nat.lt_succ_of_lt el)
  refine wpAny_bind ?_
  unfold Builtin.SmallTypes.ownedTupleIsFree
  refine wpAny_bind (wpAny_field e4 rfl (x := .none) rfl (wpAny_pure ?_))
  simp only [if_true]
  refine wpAny_bind (wpAny_rule ?_)
  refine wpAny_bind (wpAny_field e4 rfl (x := old) rfl ?_)
  refine wpAny_bind (wpAny_setField_rec e4 (by simp) fun h5 e5 b5 => ?_)
  replace b5 : Heap.SameBut e h4 h5 := b5
  replace e5 : IsEnum h5 e z ((i : Int) + 1) (.ref hp.objs.size) := e5
  show wpAny _ _ (Builtin.SmallTypes.ownedTupleHandOut (.ref e) (.ref (hp.objs.size + 1)) >>= _) _ _ ⟨h5, g, d, tk + 1, os⟩
  refine wpAny_bind ?_
  unfold Builtin.SmallTypes.ownedTupleHandOut
  refine wpAny_bind (wpAny_setField_rec e5 (by simp) fun h6 e6 b6 => ?_)
  replace b6 : Heap.SameBut e h5 h6 := b6
  replace e6 : IsEnumOut h6 e z ((i : Int) + 1) (.ref hp.objs.size) (hp.objs.size + 1) := e6
  refine wpAny_setField_rec e6 (by simp) fun h7 e7 b7 => ?_
  replace b7 : Heap.SameBut e h6 h7 := b7
  replace e7 : IsEnumOut h7 e z ((i : Int) + 1) (.ref hp.objs.size) (hp.objs.size + 1) := e7
  refine wpAny_bind (wpAny_letGo (wpAny_pure ⟨_, rfl, hQ x1 x2 h1 h7 tk hx1 hx2 z1 s1 s2 t1 sz1 k1 e7 ?_ ?_ ?_⟩))
  · exact b7.extBut _ _ ne5 (b6.extBut _ _ ne5 (b5.extBut _ _ ne5 t4))
  · show h7.objs.size = hp.objs.size + 2
    rw [b7.1, b6.1, b5.1, sz4]
  · exact fun b o hbe hb => b7.extBut b o hbe (b6.extBut b o hbe (b5.extBut b o hbe (k4 b o hbe hb)))
theorem py_ez_next {Q : Option Value → Shared → Prop} (S : ZipSep2 z TI TO i1 i2 fp1 fp2) (D1 : Draws P w A.in1.in1 i1 fp1 n1 P1 St1) (D2 : Draws P w A.in1.in1 i2 fp2 n2 P2 St2)
    (he : IsEnum s.heap e z i old) (hz : Zok s.heap z TI TO) (hTI : IsTupOf2 s.heap TI (.ref i1) (.ref i2)) (st1 : St1 i s.heap) (st2 : St2 i s.heap) (hlt1 : i < n1) (hlt2 : i < n2) (ne1 : e ≠ z) (ne2 : e ≠ TO) (ne3 : e ≠ i1) (ne4 : e ≠ i2)
    (hQ : ∀ x1 x2 h1 h' tk, P1 i x1 → P2 i x2 → Zok h1 z TI TO → St1 (i + 1) h1 → St2 (i + 1) h1 → IsTupOf2 h1 s.heap.objs.size x1 x2 → h1.objs.size = s.heap.objs.size + 1 → (∀ c o, c ≠ z → c ≠ TO → c ≠ i1 → c ≠ i2 → s.heap.get? c = some o → h1.get? c = some o) →
      IsEnumOut h' e z ((i : Int) + 1) (.ref s.heap.objs.size) (s.heap.objs.size + 1) → h'.get? (s.heap.objs.size + 1) = some { cls := .type "tuple", data := .seq #[.int i tk, .ref s.heap.objs.size] } → h'.objs.size = s.heap.objs.size + 2 →
      (∀ b o, b ≠ e → h1.get? b = some o → h'.get? b = some o) → Q (some (.ref (s.heap.objs.size + 1))) { s with heap := h', toks := tk + 1 }) :
    wpAny (model P w) A (pyNext (.ref e)) Q E s := by
  have hT : s.TypeIs (.ref e) "enumerate" := ⟨_, he, rfl⟩
  unfold pyNext
  exact wpAny_bind (wpAny_attempt (wpAny_callSpecial?_slot (name := Str.ofString "__next__") hT F.slot_enumerate_next
    (wpAny_call_entry F.slot_enumerate_next hT F.entry_enumerate_next
      (ez_next S D1 D2 he hz hTI st1 st2 hlt1 hlt2 ne1 ne2 ne3 ne4 fun x1 x2 h1 h' tk q1 q2 q3 q4 q5 q6 q7 q8 q9 r1 r2 r3 => wpAny_pure (hQ x1 x2 h1 h' tk q1 q2 q3 q4 q5 q6 q7 q8 q9 r1 r2 r3)) (F.args_enumerate_next_1 _))))
theorem py_ez_end {Q : Option Value → Shared → Prop} (S : ZipSep2 z TI TO i1 i2 fp1 fp2) (D1 : Draws P w A.in1.in1 i1 fp1 n1 P1 St1) (D2 : Draws P w A.in1.in1 i2 fp2 n2 P2 St2)
    (he : IsEnum s.heap e z i old) (hz : Zok s.heap z TI TO) (hTI : IsTupOf2 s.heap TI (.ref i1) (.ref i2)) (st1 : St1 i s.heap) (st2 : St2 i s.heap) (hle1 : i ≤ n1) (hle2 : i ≤ n2) (hend : i = n1 ∨ i = n2)
    (hQ : ∀ h' tk, (∀ c o, c ≠ z → c ≠ TO → c ≠ i1 → c ≠ i2 → s.heap.get? c = some o → h'.get? c = some o) → Q none { s with heap := h', toks := tk }) : wpAny (model P w) A (pyNext (.ref e)) Q E s := by
  have hT : s.TypeIs (.ref e) "enumerate" := ⟨_, he, rfl⟩
  unfold pyNext
  refine wpAny_bind (wpAny_attempt (wpAny_callSpecial?_slot (name := Str.ofString "__next__") hT F.slot_enumerate_next
    (wpAny_call_entry F.slot_enumerate_next hT F.entry_enumerate_next ?_ (F.args_enumerate_next_1 _))))
  show wpAny _ _ (field (.ref e) 2 >>= _) _ _ _
  refine wpAny_bind (wpAny_field he rfl (x := .ref z) rfl ?_)
  have hTy := zok_ty hz
  refine wpAny_bind ?_
  unfold Builtin.SmallTypes.nextOf
  refine wpAny_bind (wpAny_callSpecial?_slot (name := Str.ofString "__next__") hTy F.slot_zip_next (wpAny_call_entry F.slot_zip_next hTy F.entry_zip_next ?_ (F.args_zip_next_1 _)))
  refine za_end S D1 D2 hz hTI st1 st2 hle1 hle2 hend fun h' tk x kp hx => ?_
  obtain ⟨o, ho, hc⟩ := hx
  refine wpAny_bind (wpAny_isInstance (T := "StopIteration") (b := true) ⟨o, ho, hc⟩ isSubtype_stop ?_)
  exact wpAny_pure (hQ _ _ kp)
end Mi
end
end
section
set_option Elab.async false
set_option linter.all false
set_option maxRecDepth 100000
set_option maxHeartbeats 3200000
/-! N12: a loop over enumerate(zip(a, b)). -/
namespace Mi
open PySem PyProof.Rows
open L2 (V HO Hp upd upd_same upd_ne SqL SqT Rd Cx Inv PE PT PA PS PSs PG PGs PI TE TT TA TS TG TGs TI It VK XK Ends RelV Vals ne_of_none OpR R2 EP CallR UnR IxR SlR TruR Gl Vis Loc HOk Turn FpOk)
/-- the tuples at a and b, numbered pairs of their items -/
def Jez (K : Fg) (a b : Addr) : It :=
  ⟨fun i H => ∃ (xs ys : List V) (x y : V), SqT K H a xs ∧ SqT K H b ys ∧ xs[i]? = some x ∧ ys[i]? = some y,
    fun i H v H' => ∃ (T T2 : Addr) (x y : V), v = .ref T2 ∧ H T = none ∧ upd H T (.tup [x, y]) T2 = none ∧ H' = upd (upd H T (.tup [x, y])) T2 (.tup [.int (i : Nat), .ref T]) ∧ (∀ xs, SqT K H a xs → xs[i]? = some x) ∧ ∀ ys, SqT K H b ys → ys[i]? = some y,
    fun i H => ∃ xs ys : List V, SqT K H a xs ∧ SqT K H b ys ∧ (xs.length ≤ i ∨ ys.length ≤ i)⟩
/-- a tuple's iterator at its end -/
theorem draws_end {P : Program} {w : World} {A : Around} (hh : A.handled = none) (it t : Addr) (items : Array Value) (i : Nat) (hi : items[i]? = none) :
    Draws P w A it [it, t] i (fun _ _ => True) (fun j h => j = i ∧ h.IsTupleIter it t i ∧ h.IsTuple t items) where
  live := fun _ _ st => let ⟨o, ho, _⟩ := st.2.1; ⟨o, ho⟩
  frame := fun _ _ _ st hk => ⟨st.1, st.2.1.at fun o e => hk it (by simp) o e, st.2.2.at fun o e => hk t (by simp) o e⟩
  item := fun j s Q E hj st hQ => absurd st.1 (by omega)
  done := fun s Q E st hE => wpAny_nextOf_tuple_end hh st.2.1 st.2.2 hi hE
theorem turn_ez {P : Program} {w : World} {K : Fg} {elts : List Expr} {kk : Nat} {tpos : Pos} {a b e z TI TO i1 i2 : Addr} (S : ZipSep2 z TI TO i1 i2 [i1, a] [i2, b]) (ne : e ≠ z ∧ e ≠ TI ∧ e ≠ TO ∧ e ≠ i1 ∧ e ≠ i2) (h1a : a ≠ i1) (h2b : b ≠ i2) :
    Turn P w K (.Tuple elts kk tpos) (Jez K a b) [e, z, TI, TO, i1, i2] e (fun i h => (∃ old, IsEnum h e z (i : Nat) old) ∧ Zok h z TI TO ∧ IsTupOf2 h TI (.ref i1) (.ref i2) ∧ h.IsTupleIter i1 a i ∧ h.IsTupleIter i2 b i) where
  mem := by simp
  obj := fun i h st c hc => by
    obtain ⟨⟨old, he⟩, ⟨hz, x, y, hTO⟩, hTI, ⟨o1, e1, _, d1⟩, ⟨o2, e2, _, d2⟩⟩ := st
    have e' : c = e ∨ c = z ∨ c = TI ∨ c = TO ∨ c = i1 ∨ c = i2 := by simpa using hc
    rcases e' with q | q | q | q | q | q
    · rw [q]; exact ⟨_, he, fun v q => nomatch q⟩
    · rw [q]
      rcases hz with hz | ⟨T, f, hz⟩
      · exact ⟨_, hz, fun v q => nomatch q⟩
      · exact ⟨_, hz, fun v q => nomatch q⟩
    · rw [q]; exact ⟨_, hTI, fun v q => nomatch q⟩
    · rw [q]; exact ⟨_, hTO, fun v q => nomatch q⟩
    · rw [q]; exact ⟨o1, e1, fun v q => by rw [d1] at q; cases q⟩
    · rw [q]; exact ⟨o2, e2, fun v q => by rw [d2] at q; cases q⟩
  keep := fun i h h' st k => by
    obtain ⟨⟨old, he⟩, ⟨hz, x, y, hTO⟩, hTI, h1, h2⟩ := st
    refine ⟨⟨old, k e (by simp) _ he⟩, ⟨?_, x, y, k TO (by simp) _ hTO⟩, k TI (by simp) _ hTI, h1.at fun o q => k i1 (by simp) o q, h2.at fun o q => k i2 (by simp) o q⟩
    rcases hz with hz | ⟨T, f, hz⟩
    · exact .inl (k z (by simp) _ hz)
    · exact .inr ⟨T, f, k z (by simp) _ hz⟩
  item := by
    intro X hP hw hK hc i pins s σ H E I hf st hg
    subst hP hw hK
    obtain ⟨⟨old, he⟩, hz, hTI, h1, h2⟩ := st
    obtain ⟨xs, ys, x, y, hqx, hqy, hx, hy⟩ := hg
    obtain ⟨its, rv, p, _⟩ := I.tuple hqx
    obtain ⟨its2, rv2, p2, _⟩ := I.tuple hqy
    obtain ⟨u, hu, ru⟩ := rv.get hx
    obtain ⟨u2, hu2, ru2⟩ := rv2.get hy
    have hh : X.A.in1.in1.handled = none := by simp [I.ok.hd hc]
    have hlt1 : i < its.toArray.size := by
      have := (List.getElem?_eq_some_iff.mp hu).1; simpa using this
    have hlt2 : i < its2.toArray.size := by
      have := (List.getElem?_eq_some_iff.mp hu2).1; simpa using this
    have el : e < s.heap.objs.size := Heap.lt_size he
    refine py_ez_next S (Draws.tuple hh i1 a h1a its.toArray) (Draws.tuple hh i2 b h2b its2.toArray) he hz hTI ⟨h1, p⟩ ⟨h2, p2⟩ hlt1 hlt2 ne.1 ne.2.2.1 ne.2.2.2.1 ne.2.2.2.2 fun x1 x2 g1 g' tk q1 q2 q3 q4 q5 q6 q7 q8 q9 r1 r2 r3 => ?_
    have v1 : x1 = u := by
      have q1' : its[i]? = some x1 := by simpa using q1
      rw [hu] at q1'; exact (Option.some.inj q1').symm
    have v2 : x2 = u2 := by
      have q2' : its2[i]? = some x2 := by simpa using q2
      rw [hu2] at q2'; exact (Option.some.inj q2').symm
    subst v1 v2
    refine ⟨_, rfl, wpAny_letOwnedTupleGo_enum (s := { s with heap := g', toks := tk + 1 }) q9 fun g2 he2 sb => ?_⟩
    have hT2 : g2.get? (s.heap.objs.size + 1) = some { cls := .type "tuple", data := .seq #[.int i tk, .ref s.heap.objs.size] } := (sb.2 _ (Nat.ne_of_gt (Nat.lt_succ_of_lt el))).trans r1
    have new1 : L2.ObjOk X.prog X.w (upd H s.heap.objs.size (.tup [x, y])) g1 s.heap.objs.size (.tup [x, y]) :=
      ⟨by show 2 ≤ sizeLine; decide, [x1, x2], .cons ru (.cons ru2 .nil), ⟨_, q6, rfl, _, rfl⟩⟩
    have J1 : Inv X pins σ (upd H s.heap.objs.size (.tup [x, y])) { s with heap := g1 } :=
      I.turnedNew (t' := s.toks) (ch := [z, TI, TO, i1, i2]) (fun c o hb q => q8 c o (fun q' => hb (by simp [q'])) (fun q' => hb (by simp [q'])) (fun q' => hb (by simp [q'])) (fun q' => hb (by simp [q'])) q) (fun c hcm => hf c (by
        simp at hcm ⊢
        exact .inr hcm)) (Nat.le_refl _) new1
    have hfr : ∀ c ∈ [e, z, TI, TO, i1, i2], c < s.heap.objs.size := fun c hcm => by
      obtain ⟨⟨hz', x', y', hTO⟩, _⟩ := And.intro hz trivial
      have e' : c = e ∨ c = z ∨ c = TI ∨ c = TO ∨ c = i1 ∨ c = i2 := by simpa using hcm
      rcases e' with q | q | q | q | q | q
      · rw [q]; exact el
      · rw [q]
        rcases hz' with hz' | ⟨T, f, hz'⟩ <;> exact Heap.lt_size hz'
      · rw [q]; exact Heap.lt_size hTI
      · rw [q]; exact Heap.lt_size hTO
      · rw [q]; obtain ⟨_, e1, _⟩ := h1; exact Heap.lt_size e1
      · rw [q]; obtain ⟨_, e2, _⟩ := h2; exact Heap.lt_size e2
    have fpe : FpOk X pins (upd H s.heap.objs.size (.tup [x, y])) e := by
      obtain ⟨f0, f1, f2, f3, f4, f5⟩ := hf e (by simp)
      exact ⟨by rw [upd_ne (Nat.ne_of_lt el)]; exact f0, f1, f2, f3, f4, f5⟩
    have hn2 : upd H s.heap.objs.size (.tup [x, y]) (s.heap.objs.size + 1) = none := by
      rw [upd_ne (Nat.ne_of_gt (Nat.lt_succ_self _))]
      exact I.hok.fresh (Nat.le_succ _)
    have new2 : L2.ObjOk X.prog X.w (upd (upd H s.heap.objs.size (.tup [x, y])) (s.heap.objs.size + 1) (.tup [.int (i : Nat), .ref s.heap.objs.size])) g2 (s.heap.objs.size + 1) (.tup [.int (i : Nat), .ref s.heap.objs.size]) :=
      ⟨by show 2 ≤ sizeLine; decide, [.int i tk, .ref s.heap.objs.size], .cons ⟨_, rfl⟩ (.cons rfl .nil), ⟨_, hT2, rfl, _, rfl⟩⟩
    have J2 : Inv X pins σ (upd (upd H s.heap.objs.size (.tup [x, y])) (s.heap.objs.size + 1) (.tup [.int (i : Nat), .ref s.heap.objs.size])) { s with heap := g2, toks := tk + 1 } :=
      J1.turnedNew (t' := tk + 1) (ch := [e]) (fun c o hb q => (sb.2 c (fun q' => hb (by simp [q']))).trans (r3 c o (fun q' => hb (by simp [q'])) q)) (fun c hcm => by
        rw [List.mem_singleton.mp hcm]; exact fpe) (by show g1.objs.size ≤ _; rw [q7]; exact Nat.le_refl _) new2
    refine ⟨.ref (s.heap.objs.size + 1), _, J2, rfl, ⟨s.heap.objs.size, s.heap.objs.size + 1, x, y, rfl, I.hok.fresh (Nat.le_refl _), hn2, rfl, fun l hl => by rw [I.tuple_inj hl hqx]; exact hx, fun l hl => by rw [I.tuple_inj hl hqy]; exact hy⟩, ⟨⟨.ref s.heap.objs.size, ?_⟩, ?_, ?_, ?_, ?_⟩, fun c hcm => ?_⟩
    · have e1 : ((i + 1 : Nat) : Int) = (i : Int) + 1 := by omega
      rw [e1]; exact he2
    · obtain ⟨hz', x', y', hTO⟩ := q3
      have kk : ∀ c o, c ≠ e → g1.get? c = some o → g2.get? c = some o := fun c o c1 q => (sb.2 c c1).trans (r3 c o c1 q)
      refine ⟨?_, x', y', kk _ _ (Ne.symm ne.2.2.1) hTO⟩
      rcases hz' with hz' | ⟨T, f, hz'⟩
      · exact .inl (kk _ _ (Ne.symm ne.1) hz')
      · exact .inr ⟨T, f, kk _ _ (Ne.symm ne.1) hz'⟩
    · exact (sb.2 _ (Ne.symm ne.2.1)).trans (r3 _ _ (Ne.symm ne.2.1) (q8 _ _ S.TIz S.TITO S.TIi1 S.TIi2 hTI))
    · exact q4.1.at fun o q => (sb.2 _ (Ne.symm ne.2.2.2.1)).trans (r3 _ _ (Ne.symm ne.2.2.2.1) q)
    · exact q5.1.at fun o q => (sb.2 _ (Ne.symm ne.2.2.2.2)).trans (r3 _ _ (Ne.symm ne.2.2.2.2) q)
    · have := hfr c hcm
      rw [upd_ne (Nat.ne_of_lt (Nat.lt_succ_of_lt this)), upd_ne (Nat.ne_of_lt this)]
      exact (hf c hcm).1
  done := by
    intro X hP hw hK hc i pins s σ H E I hf st hg
    subst hP hw hK
    obtain ⟨⟨old, he⟩, hz, hTI, h1, h2⟩ := st
    obtain ⟨xs, ys, hqx, hqy, hend⟩ := hg
    obtain ⟨its, rv, p, _⟩ := I.tuple hqx
    obtain ⟨its2, rv2, p2, _⟩ := I.tuple hqy
    have l1 := rv.length
    have l2 := rv2.length
    have hh : X.A.in1.in1.handled = none := by simp [I.ok.hd hc]
    have fin : ∀ (h' : Heap) (tk : Nat), (∀ c o, c ≠ z → c ≠ TO → c ≠ i1 → c ≠ i2 → s.heap.get? c = some o → h'.get? c = some o) → (none : Option Value) = none ∧ Inv X pins σ H { s with heap := h', toks := tk } := fun h' tk kp =>
      ⟨rfl, I.turnedL (t' := tk) (ch := [e, z, TI, TO, i1, i2]) (fun c o hb q => kp c o (fun q' => hb (by simp [q'])) (fun q' => hb (by simp [q'])) (fun q' => hb (by simp [q'])) (fun q' => hb (by simp [q'])) q) hf⟩
    by_cases q : xs.length ≤ i
    · have n1 : its.toArray[i]? = none := by simp; omega
      by_cases q2 : ys.length ≤ i
      · have n2 : its2.toArray[i]? = none := by simp; omega
        exact py_ez_end S (draws_end hh i1 a its.toArray i n1) (draws_end hh i2 b its2.toArray i n2) he hz hTI ⟨rfl, h1, p⟩ ⟨rfl, h2, p2⟩ (Nat.le_refl _) (Nat.le_refl _) (.inl rfl) fin
      · exact py_ez_end S (draws_end hh i1 a its.toArray i n1) (Draws.tuple hh i2 b h2b its2.toArray) he hz hTI ⟨rfl, h1, p⟩ ⟨h2, p2⟩ (Nat.le_refl _) (by simp; omega) (.inl rfl) fin
    · have q2 : ys.length ≤ i := hend.resolve_left q
      have n2 : its2.toArray[i]? = none := by simp; omega
      exact py_ez_end S (Draws.tuple hh i1 a h1a its.toArray) (draws_end hh i2 b its2.toArray i n2) he hz hTI ⟨h1, p⟩ ⟨rfl, h2, p2⟩ (by simp; omega) (Nat.le_refl _) (.inr rfl) fin
  self := fun A i s Q E st h => let ⟨⟨_, he⟩, _⟩ := st; wpAny_pyIter_enum he h
section
variable {C : Cx} {W : Str → Option Addr → Hp → Prop} {fs : En → Sr → R (List Vl)}
theorem pi_ez {e1 e2 : Expr} {ta : TA} {p0 p1 p2 pos tpos : Pos} {elts : List Expr} {kk : Nat} (hg : Gl C "enumerate") (hm : C.mg "enumerate" = none) (hg2 : Gl C "zip") (hm2 : C.mg "zip" = none) (ha : PA C [e1, e2] ta)
    (hs0 : ∀ env, starEach [.Call (.Name "zip" p1) [e1, e2] [] p2] env = [(false, eval (.Call (.Name "zip" p1) [e1, e2] [] p2) env)])
    (hs : starEach [e1, e2] C.env = (false, eval e1 C.env) :: starEach [e2] C.env) (hpl : (backTo p2 (starEach [e2] C.env)).any (·.1) = false) :
    PI C (.Tuple elts kk tpos) (.Call (.Name "enumerate" p0) [.Call (.Name "zip" p1) [e1, e2] [] p2] [] pos) (fun σ H R => ta σ H fun vs H1 => ∃ a b xs ys, vs = [.ref a, .ref b] ∧ SqT C.K H1 a xs ∧ SqT C.K H1 b ys ∧ R (Jez C.K a b) H1) := by
  refine ⟨fun pins s σ H R I h => ?_⟩
  refine PyProof.Rows.Call_ (L2.ld_blt I hg hm boot_enumerate (PyProof.Rows.callWith_type1 (PyProof.Rows.args_cons ?_ rfl) (hs0 _) rfl))
  refine PyProof.Rows.Call_ (L2.ld_blt I hg2 hm2 (show bootBuiltins "zip" = some (.type "zip") by decide +kernel) ?_)
  refine PyProof.Rows.callWith_type1 (L2.thn (ha.run p2 pins s σ H _ I h) fun us s1 ⟨vs, H1, I1, r1, q1⟩ => ?_) hs hpl
  obtain ⟨a, b, xs, ys, ex, hqx, hqy, q⟩ := q1
  subst ex
  cases r1 with
  | cons r rr =>
    cases rr with
    | cons r' rr =>
      cases rr
      cases r
      cases r'
      obtain ⟨its, rv, p1', _⟩ := I1.tuple hqx
      obtain ⟨its2, rv2, p2', _⟩ := I1.tuple hqy
      have la : a < s1.heap.objs.size := by obtain ⟨o, e, _⟩ := p1'; exact Heap.lt_size e
      have lb : b < s1.heap.objs.size := by obtain ⟨o, e, _⟩ := p2'; exact Heap.lt_size e
      refine RZ.call_zipT (show s1.heap.IsTuple a its.toArray from p1') (show s1.heap.IsTuple b its2.toArray from p2') fun h' hz hTI hTO h1 h2 hsz hk => PyProof.Rows.args_nil ?_
      refine call_ez (s := { s1 with heap := h' }) hz fun h2' he hsz2 hk2 => wpAny_pyIter_enum he ?_
      have sz5 : ({ s1 with heap := h' } : Shared).heap.objs.size = s1.heap.objs.size + 5 := hsz
      have I2 : Inv C pins σ H1 { s1 with heap := h2' } := I1.kept (t' := s1.toks) fun c o e => hk2 c o (hk c o e)
      rw [sz5] at he
      have e' : ∀ c, c ∈ [s1.heap.objs.size + 5, s1.heap.objs.size + 4, s1.heap.objs.size + 2, s1.heap.objs.size + 3, s1.heap.objs.size, s1.heap.objs.size + 1] → s1.heap.objs.size ≤ c := fun c hc => by
        simp at hc; omega
      refine ⟨s1.heap.objs.size + 5, [s1.heap.objs.size + 5, s1.heap.objs.size + 4, s1.heap.objs.size + 2, s1.heap.objs.size + 3, s1.heap.objs.size, s1.heap.objs.size + 1], _, _, H1, by rw [sz5], I2, turn_ez (zsep s1.heap.objs.size a b la lb) ⟨Nat.ne_of_gt (by omega), Nat.ne_of_gt (by omega), Nat.ne_of_gt (by omega), Nat.ne_of_gt (by omega), Nat.ne_of_gt (by omega)⟩ (Nat.ne_of_lt la) (Nat.ne_of_lt (Nat.lt_succ_of_lt lb)), ⟨⟨.none, he⟩, ⟨.inl (hk2 _ _ hz), _, _, hk2 _ _ hTO⟩, hk2 _ _ hTI, h1.at fun o e => hk2 _ o e, h2.at fun o e => hk2 _ o e⟩, fun c hc => I1.fpOk (e' c hc) (I1.hok.fresh (e' c hc)), q⟩
theorem enz_get : ∀ (ds es : List P) (i : Nat) (v : Vl) (k : Nat), (enumP k (zpP ds es))[i]? = some v → ∃ d d2, ds[i]? = some d ∧ es[i]? = some d2 ∧ v = .p (.tuple [.int ((k + i : Nat)), .tuple [d, d2]])
  | [], es, i, v, k, h => by simp [zpP, enumP] at h
  | d :: ds, [], i, v, k, h => by simp [zpP, enumP] at h
  | d :: ds, e :: es, 0, v, k, h => by
    simp [zpP, enumP] at h
    exact ⟨d, e, rfl, rfl, h.symm⟩
  | d :: ds, e :: es, i + 1, v, k, h => by
    simp only [zpP, enumP, List.getElem?_cons_succ] at h
    obtain ⟨d1, d2, h1, h2, h3⟩ := enz_get ds es i v (k + 1) h
    exact ⟨d1, d2, by simpa using h1, by simpa using h2, by rw [h3]; congr 4; omega⟩
theorem enz_len : ∀ (ds es : List P) (i k : Nat), (enumP k (zpP ds es)).length ≤ i → ds.length ≤ i ∨ es.length ≤ i
  | [], es, i, k, h => .inl (by simp)
  | d :: ds, [], i, k, h => .inr (by simp)
  | d :: ds, e :: es, 0, k, h => by simp [zpP, enumP] at h
  | d :: ds, e :: es, i + 1, k, h => by
    simp only [zpP, enumP, List.length_cons, Nat.add_le_add_iff_right] at h
    rcases enz_len ds es i (k + 1) h with h | h
    · exact .inl (by simpa using h)
    · exact .inr (by simpa using h)
theorem itEz {K : Fg} {O : Addr → Prop} {ρ : Nat → Addr} {st : Sr} {H : Hp} {a b : Addr} {ds es : List P} {vs us : List V} (S : RelS K O ρ H st) (l : SqT K H a vs) (r : ReqP K (Mt O ρ st) H ds vs) (l2 : SqT K H b us) (r2 : ReqP K (Mt O ρ st) H es us) : ItOk K O ρ st H (enumP 0 (zpP ds es)) (Jez K a b) := by
  intro Xo O' ρ' st' H' xo w s S' i
  have l' := s.tupK xo S l
  have r' := r.goX S xo w s
  have l2' := s.tupK xo S l2
  have r2' := r2.goX S xo w s
  refine ⟨fun v hv => ?_, fun hi => ⟨vs, us, l', l2', by rw [← r.len, ← r2.len]; exact enz_len _ _ _ _ hi⟩⟩
  obtain ⟨d, d2, hd, hd2, rfl⟩ := enz_get _ _ _ _ _ hv
  obtain ⟨u, h1, h2⟩ := r'.get hd
  obtain ⟨u2, h3, h4⟩ := r2'.get hd2
  refine ⟨⟨vs, us, u, u2, l', l2', h1, h3⟩, fun x H'' ⟨T, T2, y, y2, e1, e2, e2', e3, e4, e5⟩ => ?_⟩
  subst e1 e3
  have t1 := e4 vs l'
  have t2 := e5 us l2'
  rw [h1] at t1
  rw [h3] at t2
  cases t1
  cases t2
  have n1 := S'.new (o := .tup [u, u2]) e2
  have s1 := Stp.new (o := .tup [u, u2]) S' e2
  have p1 := rep_newT S' e2 (.cons h2 (.cons h4 .nil))
  refine ⟨Stp.trans S' n1 s1 (Stp.new n1 e2'), n1.new e2', ?_⟩
  rw [Nat.zero_add]
  exact rep_newT n1 e2' (.cons (.int _) (.cons p1 .nil))
theorem iEnz {T0 T1 : T} {p0 p1 p2 p tpos : Pos} {elts : List Expr} {kk : Nat} (hg : Gl C "enumerate") (hm : C.mg "enumerate" = none) (hg2 : Gl C "zip") (hm2 : C.mg "zip" = none) (ha : PA C [toE T0, toE T1] (TrA C.K W fs)) :
    PI C (.Tuple elts kk tpos) (.Call (.Name "enumerate" p0) [.Call (.Name "zip" p1) [toE T0, toE T1] [] p2] [] p) (TrI C.K W fun e s => (fs e s).bd fun vs s => R.of (ezV vs) s) :=
  imI (pi_ez hg hm hg2 hm2 ha (fun _ => rfl) (star_cons _ _ _) (by rw [back_any, star_cons]; rfl)) fun σ H Q ⟨O, ρ, e, st, R, h⟩ => ⟨O, ρ, e, st, R, End.bd R.S h fun x st1 ρ1 H1 v q s1 S1 r1 h1 => by
    unfold ezV at h1
    split at h1
    · rename_i ds es
      cases r1 with
      | cons r rr =>
        cases rr with
        | cons r' rr =>
          cases rr
          obtain ⟨a', vs, rfl, l, rr⟩ := RepP.tup_inv r
          obtain ⟨a2, vs2, rfl, l2, rr2⟩ := RepP.tup_inv r'
          exact ⟨a', a2, vs, vs2, rfl, l, l2, h1.at S1 (itEz S1 l rr l2 rr2)⟩
    · exact h1.elim⟩
end
end Mi
end
section
set_option Elab.async false
set_option linter.all false
set_option maxRecDepth 100000
set_option maxHeartbeats 2000000
/-! N13: list(a), [..] * n, to be changed. -/
namespace Mi
open PySem PyProof.Rows
open L2 (V HO Hp upd upd_same upd_ne SqL SqT Rd Cx Inv PE PT PA PS PSs PG PGs PI TE TT TA TS TG TGs TI It VK XK Ends RelV Vals ne_of_none OpR R2 EP CallR UnR IxR SlR TruR Gl Vis Loc HOk)
section
variable {C : Cx} {W : Str → Option Addr → Hp → Prop} {fa fb : En → Sr → R Vl} {fs : En → Sr → R (List Vl)} {pos : Pos}
theorem xLsm {T0 : T} {p0 : Pos} (hg : Gl C "list") (hm : C.mg "list" = none) (ha : PA C [toE T0] (TrA C.K W fs)) :
    PE C (.Call (.Name "list" p0) [toE T0] [] pos) (TrE C.K W fun e s => (fs e s).bd lsmV) :=
  imE (L2.pe_callTy L2.call_list_of hg hm PyProof.Rows.boot_list ha (by decide +kernel) (by decide) (star_cons _ _ _) (by rw [back_any]; rfl)) fun σ H Q ⟨O, ρ, e, st, R, h⟩ => ⟨O, ρ, e, st, R, End.bd R.S h fun x st1 ρ1 H1 v _ s1 S1 r1 h1 => by
    unfold lsmV at h1
    split at h1
    · rename_i xs e1
      obtain ⟨y, rfl, hy⟩ := RdPs.one (C := C) (ddL_rd S1 r1 e1)
      obtain ⟨a, vs, rfl, l, rr⟩ := hy.list
      exact ⟨a, vs, rfl, .inl l.sq, fun p hp => mkLst_end S1 h1 hp rr⟩
    · rename_i xs e1
      obtain ⟨y, rfl, hy⟩ := RdPs.one (C := C) (ddL_rd S1 r1 e1)
      obtain ⟨a, vs, rfl, l, rr⟩ := hy.tup
      exact ⟨a, vs, rfl, .inr l, fun p hp => mkLst_end S1 h1 hp rr⟩
    · exact h1.elim⟩
theorem opRpm : OpR C (binaryOp .Mult) (fun x y H Q => ∃ (l : Addr) (xs : List V) (k : Int), x = .ref l ∧ y = .int k ∧ LsX C.K H l xs ∧ 0 ≤ k ∧ k < 2 ^ 63 ∧ xs.length * k.toNat ≤ sizeLine ∧ ∀ p, H p = none → Q (.ref p) (upd H p (.lst (rep xs k.toNat)))) := by
  intro pins s σ H x y v u Q I rx ry ⟨l, xs, k, e1, e2, h1, h2, h3, h4, q⟩
  subst e1 e2
  cases rx
  obtain ⟨t, rfl⟩ := ry
  exact mul_two I h1 h2 h3 h4 q
theorem xRpm {a b : Expr} (ha : PE C a (TrE C.K W fa)) (hb : PE C b (TrE C.K W fb)) : PE C (.BinOp a .Mult b pos) (TrE C.K W fun e s => (fa e s).bd fun v s => (fb e s).bd fun w s => rpmV v w s) :=
  imE (L2.pe_op opRpm ha hb) fun σ H Q ⟨O, ρ, e, st, R, h⟩ => ⟨O, ρ, e, st, R, End.bd R.S h fun x st1 ρ1 H1 v _ s1 S1 r1 h1 => ⟨O, ρ1, e, st1, R.go s1 S1, End.bd S1 h1 fun y st2 ρ2 H2 u _ s2 S2 r2 h2 => by
    unfold rpmV at h2
    split at h2
    · rename_i xs k e1 e2
      split at h2
      · rename_i hz
        obtain ⟨l, vs, rfl, h3, rr⟩ := (dd_rd S2 (Rep.stp S1 s2 r1) e1).list
        cases (dd_rd S2 r2 e2).int
        have l1 := rr.len
        exact ⟨l, vs, k, rfl, rfl, h3, hz.1, by have := hz.2.1; unfold lim at this; omega, lim_line (by rw [← l1]; exact hz.2.2), fun p hp => mkLst_end S2 h2 hp (rep_req rr k.toNat)⟩
      · exact h2.elim
    · exact h2.elim⟩⟩
end
end Mi
end
section
set_option Elab.async false
set_option linter.all false
set_option maxRecDepth 100000
set_option maxHeartbeats 1000000
/-! M12: for, while. -/
namespace Mi
open PySem
open L2 (V HO Hp upd upd_same upd_ne SqL SqT Rd Cx Inv PE PT PA PS PSs PG PGs PI TE TT TA TS TG TGs TI It VK XK Ends RelV Vals ne_of_none OpR R2 EP CallR UnR IxR SlR TruR Gl Vis Loc Itl Itt Itr)
section
variable {C : Cx} {W : Str → Option Addr → Hp → Prop} {a b c : Expr} {es : List Expr} {fa fb fc : En → Sr → R Vl} {fs : En → Sr → R (List Vl)} {pos : Pos} {tg : Expr}
theorem EndS.sub {K : Fg} {O : Addr → Prop} {ρ : Nat → Addr} {st : Sr} {H : Hp} {r : X} {D D' : Ends} (h : EndS K W O ρ st H r D)
    (h1 : ∀ e' s', r = .nx e' s' → (∀ ρ' σ' H', Stp ρ st H ρ' s' H' → Rel K O ρ' σ' H' e' s' → D.nx σ' H') → ∀ ρ' σ' H', Stp ρ st H ρ' s' H' → Rel K O ρ' σ' H' e' s' → D'.nx σ' H')
    (h2 : ∀ e' s', r = .bk e' s' → (∀ ρ' σ' H', Stp ρ st H ρ' s' H' → Rel K O ρ' σ' H' e' s' → D.bk σ' H') → ∀ ρ' σ' H', Stp ρ st H ρ' s' H' → Rel K O ρ' σ' H' e' s' → D'.bk σ' H')
    (h3 : ∀ e' s', r = .ct e' s' → (∀ ρ' σ' H', Stp ρ st H ρ' s' H' → Rel K O ρ' σ' H' e' s' → D.ct σ' H') → ∀ ρ' σ' H', Stp ρ st H ρ' s' H' → Rel K O ρ' σ' H' e' s' → D'.ct σ' H')
    (h4 : ∀ v H, D.rt v H → D'.rt v H) : EndS K W O ρ st H r D' := by
  cases r with
  | nx e' s' => exact h1 e' s' rfl h
  | bk e' s' => exact h2 e' s' rfl h
  | ct e' s' => exact h3 e' s' rfl h
  | rt a s' => exact fun ρ' H' b s S' r => h4 _ _ (h ρ' H' b s S' r)
  | ex c x s' => exact h
  | no => exact h
theorem forL_nil {tg : Vl → En → Sr → X} {body : En → Sr → X} {e : En} {s : Sr} : forL tg body [] e s = .nx e s := rfl
theorem forL_cons {tg : Vl → En → Sr → X} {body : En → Sr → X} {v : Vl} {r : List Vl} {e : En} {s : Sr} : forL tg body (v :: r) e s = match tg v e s with
    | .nx e s => match body e s with
      | .nx e s => forL tg body r e s
      | .ct e s => forL tg body r e s
      | .bk e s => .nx e s
      | x => x
    | _ => .no := rfl
/-- a turn: the target, the body, what follows -/
theorem turn_ok {K : Fg} {O : Addr → Prop} {ρ : Nat → Addr} {σ : Sg} {st : Sr} {H : Hp} {e : En} {fk : Vl → En → Sr → X} {fb : En → Sr → X} {go : En → Sr → X} {v : Vl} {x : V} {D : Ends} {N : Sg → Hp → Prop}
    (R : Rel K O ρ σ H e st) (r : Rep K O ρ st H v x)
    (h : EndS K W O ρ st H (match fk v e st with
      | .nx e s => match fb e s with
        | .nx e s => go e s
        | .ct e s => go e s
        | .bk e s => .nx e s
        | x => x
      | _ => .no) D)
    (hN : ∀ ρ' σ' H' e' s', Stp ρ st H ρ' s' H' → Rel K O ρ' σ' H' e' s' → EndS K W O ρ' s' H' (go e' s') D → N σ' H') :
    TrG K W fk x σ H fun σ2 H2 => TrS K W fb { D with nx := N, ct := N, bk := D.nx } σ2 H2 := by
  refine ⟨O, ρ, e, st, v, R, r, ?_⟩
  cases q : fk v e st with
  | nx e1 s1 =>
    rw [q] at h
    intro ρ2 σ2 H2 t2 R2
    refine ⟨O, ρ2, e1, s1, R2, ?_⟩
    have h2 := EndS.later h R.S R2.S t2
    dsimp only at h2
    have again : ∀ e' s', EndS K W O ρ2 s1 H2 (go e' s') D → ∀ ρ' σ' H', Stp ρ2 s1 H2 ρ' s' H' → Rel K O ρ' σ' H' e' s' → N σ' H' := fun e' s' h3 ρ' σ' H' t' R' =>
      hN ρ' σ' H' e' s' (t2.trans R.S R2.S t') R' (h3.later R2.S R'.S t')
    cases q2 : fb e1 s1 with
    | nx e2 s2 => rw [q2] at h2; exact again e2 s2 h2
    | ct e2 s2 => rw [q2] at h2; exact again e2 s2 h2
    | bk e2 s2 => rw [q2] at h2; exact h2
    | rt a s2 => rw [q2] at h2; exact h2
    | ex c y s2 => rw [q2] at h2; exact h2
    | no => rw [q2] at h2; exact h2.elim
  | _ => rw [q] at h; exact h.elim
theorem sFor {T0 : T} {body : List Stmt} {fi : En → Sr → R (List Vl ⊕ Nat)} {fk : Vl → En → Sr → X} {fb : En → Sr → X} (hp : PassesOwn (model C.prog C.w) C.A C.env C.xe) (hc : C.calm = true) (hi : PI C tg a (TrI C.K W fi)) (hg : PG C tg (TrG C.K W fk)) (hb : PSs C body (TrS C.K W fb))
    (hs : ∀ x, foldedSetIterable a C.env x = pure x) : PS C (.For tg a body [] pos) (TrS C.K W fun e s => (fi e s).bx fun w s => match w with
      | .inl vs => forL fk fb vs e s
      | .inr n => forR fk fb n bigN 0 e s) :=
  imS (L2.ps_for hp hc hi hg hb hs) fun D σ H ⟨O, ρ, e, st, R, h⟩ => ⟨O, ρ, e, st, R, End.bx R.S h fun w st1 ρ1 H1 J _ s1 S1 r1 h1 => by
    have R1 := R.go s1 S1
    cases w with
    | inl vs =>
      have ok : ItOk C.K O ρ1 st1 H1 vs J := r1
      refine ⟨fun i m σ H => m = vs.length - i ∧ ∃ ρ e st, Stp ρ1 st1 H1 ρ st H ∧ Rel C.K O ρ σ H e st ∧ EndS C.K W O ρ st H (forL fk fb (vs.drop i) e st) D, ⟨vs.length, by simp, ρ1, e, st1, .rfl, R1, h1⟩, ?_⟩
      rintro i m σ H ⟨rfl, ρ2, e2, st2, s2, R2, h2⟩
      have oki := ok (fun _ => False) O ρ2 st2 H XO.no .rfl (s2.x S1 R2.S) R2.S i
      by_cases hlt : i < vs.length
      · have hd : vs.drop i = vs[i] :: vs.drop (i + 1) := List.drop_eq_getElem_cons hlt
        obtain ⟨g1, g2⟩ := oki.1 vs[i] (by simp [hlt])
        rw [hd, forL_cons] at h2
        refine .inr ⟨g1, fun σ' H' => ∃ ρ e st, Stp ρ1 st1 H1 ρ st H' ∧ Rel C.K O ρ σ' H' e st ∧ EndS C.K W O ρ st H' (forL fk fb (vs.drop (i + 1)) e st) D, fun σ' H' q => ⟨vs.length - (i + 1), by omega, rfl, q⟩, fun x H' y => ?_⟩
        obtain ⟨t1, t2, t3⟩ := g2 x H' y
        have t0 := s2.trans S1 R2.S t1
        exact turn_ok (go := fun e s => forL fk fb (vs.drop (i + 1)) e s) (R2.go t1 t2) t3 (h2.later R2.S t2 t1) fun ρ' σ' H' e' s' u1 u2 u3 => ⟨ρ', e', s', t0.trans S1 t2 u1, u2, u3⟩
      · refine .inl ⟨oki.2 (by omega), ?_⟩
        rw [List.drop_eq_nil_of_le (by omega), forL_nil] at h2
        exact h2 ρ2 σ H .rfl R2
    | inr n =>
      obtain ⟨hn, rfl⟩ : n < st1.length ∧ J = Itl C.K (ρ1 n) := r1
      refine ⟨fun i m σ H => ∃ ρ e st, Stp ρ1 st1 H1 ρ st H ∧ Rel C.K O ρ σ H e st ∧ EndS C.K W O ρ st H (forR fk fb n m i e st) D, ⟨bigN, ρ1, e, st1, .rfl, R1, h1⟩, ?_⟩
      rintro i m σ H ⟨ρ2, e2, st2, s2, R2, h2⟩
      cases m with
      | zero => exact h2.elim
      | succ m =>
        have hn2 : n < st2.length := Nat.lt_of_lt_of_le hn s2.le
        obtain ⟨w, f1, f2⟩ := R2.S.ob n st2[n] (by simp [hn2])
        rw [s2.ag n hn] at f1
        simp only [forR] at h2
        have step : ∀ (v : Vl) (vs : List V) (u : V), w = .lst vs → vs[i]? = some u → Rep C.K O ρ2 st2 H v u → EndS C.K W O ρ2 st2 H (match fk v e2 st2 with
            | .nx e s => match fb e s with
              | .nx e s => forR fk fb n m (i + 1) e s
              | .ct e s => forR fk fb n m (i + 1) e s
              | .bk e s => .nx e s
              | x => x
            | _ => .no) D → ((Itl C.K (ρ1 n)).stop i H ∧ D.nx σ H) ∨ ((Itl C.K (ρ1 n)).go i H ∧ ∃ N : Sg → Hp → Prop, (∀ σ' H', N σ' H' → ∃ m', m' < m + 1 ∧ ∃ ρ e st, Stp ρ1 st1 H1 ρ st H' ∧ Rel C.K O ρ σ' H' e st ∧ EndS C.K W O ρ st H' (forR fk fb n m' (i + 1) e st) D) ∧
              ∀ x H', (Itl C.K (ρ1 n)).yld i H x H' → TrG C.K W fk x σ H' fun σ2 H2 => TrS C.K W fb { D with nx := N, ct := N, bk := D.nx } σ2 H2) := by
          intro v vs u e1 e2' rv h3
          subst e1
          refine .inr ⟨⟨vs, u, .of f1, e2'⟩, fun σ' H' => ∃ ρ e st, Stp ρ1 st1 H1 ρ st H' ∧ Rel C.K O ρ σ' H' e st ∧ EndS C.K W O ρ st H' (forR fk fb n m (i + 1) e st) D, fun σ' H' q => ⟨m, Nat.lt_succ_self _, q⟩, fun x H' ⟨y1, y2⟩ => ?_⟩
          subst y1
          have := y2 vs (.of f1)
          rw [e2'] at this
          cases this
          exact turn_ok (go := fun e s => forR fk fb n m (i + 1) e s) R2 rv h3 fun ρ' σ' H' e' s' u1 u2 u3 => ⟨ρ', e', s', s2.trans S1 R2.S u1, u2, u3⟩
        have ends : ∀ (vs : List V), w = .lst vs → vs[i]? = none → EndS C.K W O ρ2 st2 H (.nx e2 st2) D → ((Itl C.K (ρ1 n)).stop i H ∧ D.nx σ H) := by
          intro vs e1 e2' h3
          subst e1
          exact ⟨⟨vs, .of f1, List.getElem?_eq_none_iff.mp e2'⟩, h3 ρ2 σ H .rfl R2⟩
        have hq : st2[n]? = some st2[n] := by simp [hn2]
        rw [hq] at h2
        cases q : st2[n] with
        | lp z xs =>
          rw [q] at f2 h2
          obtain ⟨vs, e1, r⟩ := f2
          dsimp only at h2
          cases qx : xs[i]? with
          | some d =>
            rw [qx] at h2
            obtain ⟨u, h3, h4⟩ := r.get qx
            exact step (.p d) vs u e1 h3 h4 h2
          | none =>
            rw [qx] at h2
            exact .inl (ends vs e1 (r.none_of qx) h2)
        | lr xs =>
          rw [q] at f2 h2
          obtain ⟨e1, r⟩ := f2
          dsimp only at h2
          cases qx : xs[i]? with
          | some d =>
            rw [qx] at h2
            exact step (.r d) _ _ e1 (by simp [qx]) ⟨r d (List.mem_of_getElem? qx), rfl⟩ h2
          | none =>
            rw [qx] at h2
            exact .inl (ends _ e1 (by simp [qx]) h2)
        | dp z kvs => rw [q] at h2; exact h2.elim
        | no => rw [q] at f2; exact f2.elim⟩
theorem sWhile {body : List Stmt} {fc : En → Sr → R Bool} {fb : En → Sr → X} (hp : PassesOwn (model C.prog C.w) C.A C.env C.xe) (hc : PT C c (TrT C.K W fc)) (hb : PSs C body (TrS C.K W fb)) : PS C (.While c body [] pos) (TrS C.K W (whC fc fb)) :=
  imS (L2.ps_while hp hc hb) fun D σ H ⟨O, ρ, e, st, R, h⟩ => by
    unfold whC at h
    split at h
    · rename_i hex
      refine ⟨fun m σ H => ∃ ρ e st, Rel C.K O ρ σ H e st ∧ EndS C.K W O ρ st H (whN fc fb m e st) D, ⟨hex.choose, ρ, e, st, R, h⟩, ?_⟩
      rintro m σ H ⟨ρ2, e2, st2, R2, h2⟩
      cases m with
      | zero => exact h2.elim
      | succ m =>
        refine ⟨O, ρ2, e2, st2, R2, ?_⟩
        simp only [whN] at h2
        cases q : fc e2 st2 with
        | no => rw [q] at h2; exact h2.elim
        | ex a x s' => rw [q] at h2; exact h2
        | ok k s' =>
          rw [q] at h2
          intro ρ3 H3 k' s3 S3 rk
          cases (show k = k' from rk)
          have h3 := h2.later R2.S S3 s3
          cases k with
          | false => exact h3 ρ3 σ H3 .rfl (R2.go s3 S3)
          | true =>
            refine ⟨fun σ' H' => ∃ ρ e st, Rel C.K O ρ σ' H' e st ∧ EndS C.K W O ρ st H' (whN fc fb m e st) D, fun σ' H' q => ⟨m, Nat.lt_succ_self _, q⟩, O, ρ3, e2, s', R2.go s3 S3, ?_⟩
            dsimp only at h3
            cases q2 : fb e2 s' with
            | nx e4 s4 => rw [q2] at h3; exact fun ρ' σ' H' t R' => ⟨ρ', e4, s4, R', EndS.later (show EndS C.K W O ρ3 s' H3 (whN fc fb m e4 s4) D from h3) S3 R'.S t⟩
            | ct e4 s4 => rw [q2] at h3; exact fun ρ' σ' H' t R' => ⟨ρ', e4, s4, R', EndS.later (show EndS C.K W O ρ3 s' H3 (whN fc fb m e4 s4) D from h3) S3 R'.S t⟩
            | bk e4 s4 => rw [q2] at h3; exact h3
            | rt a s4 => rw [q2] at h3; exact h3
            | ex a x s4 => rw [q2] at h3; exact h3
            | no => rw [q2] at h3; exact h3.elim
    · exact h.elim
end
end Mi
end
section
set_option Elab.async false
set_option linter.all false
set_option maxRecDepth 100000
set_option maxHeartbeats 1000000
/-! M13: list comprehensions. -/
namespace Mi
open PySem
open L2 (V HO Hp upd upd_same upd_ne SqL SqT Rd Cx Inv PE PT PA PS PSs PG PGs PI TE TT TA TS TG TGs TI It VK XK Ends RelV Vals ne_of_none OpR R2 EP CallR UnR IxR SlR TruR Gl Vis Loc Itl Itt Itr wipe)
/-! ### targets that are names -/
mutual
def gE (K : Fg) : T → TG
  | .v i _ _ => L2.gName i
  | .tup a _ _ => L2.gTup K (cnt a) (gEs K a)
  | _ => fun _ _ _ _ => False
def gEs (K : Fg) : T → TGs
  | .nil => L2.gNil
  | .cons a b => L2.gCons (gE K a) (gEs K b)
  | _ => fun _ _ _ _ => False
end
mutual
/-- a target of names whose slots are among vs -/
def nmT (vs : List Nat) : T → Bool
  | .v i _ _ => vs.contains i
  | .tup a _ _ => nmTs vs a
  | _ => false
def nmTs (vs : List Nat) : T → Bool
  | .nil => true
  | .cons a b => nmT vs a && nmTs vs b
  | _ => false
end
theorem wipe_get (σ : Sg) : ∀ (vs : List Nat) (k : Nat), (wipe σ vs)[k]? = if k ∈ vs ∧ k < σ.length then some none else σ[k]?
  | [], k => by simp [wipe]
  | v :: vs, k => by
    unfold wipe
    have hl := L2.wipe_length σ vs
    by_cases h : v = k
    · subst h
      by_cases hk : v < σ.length
      · rw [List.getElem?_set_self (by rw [hl]; exact hk)]
        simp [hk]
      · rw [List.getElem?_eq_none (by simp [hl]; omega), if_neg (by simp [hk]), List.getElem?_eq_none (by omega)]
    · rw [List.getElem?_set_ne h, wipe_get σ vs k]
      simp [Ne.symm h]
theorem wipe_wipe (σ : Sg) (vs : List Nat) : wipe (wipe σ vs) vs = wipe σ vs := by
  apply List.ext_getElem?
  intro k
  rw [wipe_get, wipe_get, L2.wipe_length]
  by_cases h : k ∈ vs ∧ k < σ.length
  · simp [h]
  · simp [h]
theorem wipe_set (σ : Sg) (vs : List Nat) {i : Nat} (hi : i ∈ vs) (x : Option V) : wipe (σ.set i x) vs = wipe σ vs := by
  apply List.ext_getElem?
  intro k
  rw [wipe_get, wipe_get, List.length_set]
  by_cases h : k ∈ vs ∧ k < σ.length
  · simp [h]
  · rw [if_neg h, if_neg h]
    by_cases hk : i = k
    · subst hk
      have : ¬ i < σ.length := fun z => h ⟨hi, z⟩
      rw [List.getElem?_eq_none (by simp; omega), List.getElem?_eq_none (by omega)]
    · rw [List.getElem?_set_ne hk]
theorem wipeE_len (e : En) : ∀ vs : List Nat, (wipeE e vs).length = e.length
  | [] => rfl
  | v :: vs => by unfold wipeE; rw [List.length_set, wipeE_len e vs]
theorem wipeE_get (e : En) : ∀ (vs : List Nat) (k : Nat), (wipeE e vs)[k]? = if k ∈ vs ∧ k < e.length then some none else e[k]?
  | [], k => by simp [wipeE]
  | v :: vs, k => by
    unfold wipeE
    have hl := wipeE_len e vs
    by_cases h : v = k
    · subst h
      by_cases hk : v < e.length
      · rw [List.getElem?_set_self (by rw [hl]; exact hk)]
        simp [hk]
      · rw [List.getElem?_eq_none (by simp [hl]; omega), if_neg (by simp [hk]), List.getElem?_eq_none (by omega)]
    · rw [List.getElem?_set_ne h, wipeE_get e vs k]
      simp [Ne.symm h]
section
variable {K : Fg} {O : Addr → Prop} {ρ : Nat → Addr} {σ : Sg} {H : Hp} {e : En} {st : Sr}
theorem RelE.wipe (E : RelE K O ρ σ H e st) (vs : List Nat) : RelE K O ρ (L2.wipe σ vs) H (wipeE e vs) st := by
  refine ⟨by rw [L2.wipe_length, wipeE_len, E.ln], fun i x h => ?_⟩
  rw [wipeE_get] at h
  split at h
  · cases h
  · rename_i q
    obtain ⟨v, h1, h2⟩ := E.sl i x h
    refine ⟨v, ?_, h2⟩
    rw [wipe_get, if_neg (by rw [E.ln]; exact q)]
    exact h1
theorem wipeE_set (e : En) (vs : List Nat) {i : Nat} (hi : i ∈ vs) (x : Option Vl) : wipeE (e.set i x) vs = wipeE e vs := by
  apply List.ext_getElem?
  intro k
  rw [wipeE_get, wipeE_get, List.length_set]
  by_cases h : k ∈ vs ∧ k < e.length
  · simp [h]
  · rw [if_neg h, if_neg h]
    by_cases hk : i = k
    · subst hk
      have hl : ¬ i < e.length := fun q => h ⟨hi, q⟩
      rw [List.getElem?_eq_none (by simpa using Nat.le_of_not_lt hl), List.getElem?_eq_none (Nat.le_of_not_lt hl)]
    · rw [List.getElem?_set_ne hk]
mutual
theorem gE_bo (gl : List P) (F : Nat → List Vl → Sr → R Vl) (vs : List Nat) : ∀ (t : T) (e e' : En) (st st' : Sr) (w : Vl), nmT vs t = true → (sem gl F t).k w e st = .nx e' st' → st' = st ∧ wipeE e' vs = wipeE e vs
  | .v i x p, e, e', st, st', w, hn, h => by
    have h' : X.nx (e.set i (some w)) st = .nx e' st' := h
    cases h'
    exact ⟨rfl, wipeE_set e vs (by simpa [nmT] using hn) _⟩
  | .tup a k p, e, e', st, st', w, hn, h => by
    have h' : kTup (cnt a) (sem gl F a) w e st = .nx e' st' := h
    unfold kTup at h'
    split at h'
    · rename_i xs _
      split at h'
      · have q := gEs_bo gl F vs a e e' st st' xs hn h'
        exact ⟨q.1, q.2.2⟩
      · cases h'
    · cases h'
theorem gEs_bo (gl : List P) (F : Nat → List Vl → Sr → R Vl) (vs : List Nat) : ∀ (t : T) (e e' : En) (st st' : Sr) (ws : List Vl), nmTs vs t = true → (sem gl F t).ks ws e st = .nx e' st' → st' = st ∧ ws.length = cnt t ∧ wipeE e' vs = wipeE e vs
  | .nil, e, e', st, st', ws, hn, h => by
    have h' : ksNil ws e st = .nx e' st' := h
    unfold ksNil at h'
    split at h'
    · cases h'; exact ⟨rfl, rfl, rfl⟩
    · cases h'
  | .cons a b, e, e', st, st', ws, hn, h => by
    have h' : ksCons (sem gl F a) (sem gl F b) ws e st = .nx e' st' := h
    have hn' : nmT vs a = true ∧ nmTs vs b = true := by simpa [nmTs] using hn
    unfold ksCons at h'
    split at h'
    · rename_i w ws
      cases q : (sem gl F a).k w e st with
      | nx e1 s1 =>
        rw [q] at h'
        have e0 := gE_bo gl F vs a e e1 st s1 w hn'.1 q
        have e2 := gEs_bo gl F vs b e1 e' s1 st' ws hn'.2 h'
        exact ⟨e2.1.trans e0.1, by simp [e2.2.1, cnt], e2.2.2.trans e0.2⟩
      | _ => rw [q] at h'; cases h'
    · cases h'
end
theorem gE_st (gl : List P) (F : Nat → List Vl → Sr → R Vl) (vs : List Nat) (t : T) (e e' : En) (st st' : Sr) (w : Vl) (hn : nmT vs t = true) (h : (sem gl F t).k w e st = .nx e' st') : st' = st := (gE_bo gl F vs t e e' st st' w hn h).1
theorem gE_we (gl : List P) (F : Nat → List Vl → Sr → R Vl) (vs : List Nat) (t : T) (e e' : En) (st st' : Sr) (w : Vl) (hn : nmT vs t = true) (h : (sem gl F t).k w e st = .nx e' st') : wipeE e' vs = wipeE e vs := (gE_bo gl F vs t e e' st st' w hn h).2
theorem gEs_st (gl : List P) (F : Nat → List Vl → Sr → R Vl) (vs : List Nat) (t : T) (e e' : En) (st st' : Sr) (ws : List Vl) (hn : nmTs vs t = true) (h : (sem gl F t).ks ws e st = .nx e' st') : st' = st ∧ ws.length = cnt t := ⟨(gEs_bo gl F vs t e e' st st' ws hn h).1, (gEs_bo gl F vs t e e' st st' ws hn h).2.1⟩
/-- a second clause's names stand among the block's -/
theorem wipe_sub {σ : Sg} {vs ws : List Nat} (h : ∀ i ∈ ws, i ∈ vs) : wipe (wipe σ ws) vs = wipe σ vs := by
  apply List.ext_getElem?
  intro k
  rw [wipe_get, wipe_get, wipe_get, L2.wipe_length]
  by_cases q : k ∈ vs ∧ k < σ.length
  · simp [q]
  · rw [if_neg q, if_neg q, if_neg fun z => q ⟨h k z.1, z.2⟩]
theorem wipeE_sub {e : En} {vs ws : List Nat} (h : ∀ i ∈ ws, i ∈ vs) : wipeE (wipeE e ws) vs = wipeE e vs := by
  apply List.ext_getElem?
  intro k
  rw [wipeE_get, wipeE_get, wipeE_get, wipeE_len]
  by_cases q : k ∈ vs ∧ k < e.length
  · simp [q]
  · rw [if_neg q, if_neg q, if_neg fun z => q ⟨h k z.1, z.2⟩]
theorem wipeE_wipeE (e : En) (vs : List Nat) : wipeE (wipeE e vs) vs = wipeE e vs := wipeE_sub fun _ h => h
mutual
theorem gE_ok (gl : List P) (F : Nat → List Vl → Sr → R Vl) (vs : List Nat) {Q : Sg → Hp → Prop} : ∀ (t : T) (σ : Sg) (e e' : En) (w : Vl) (v : V), nmT vs t = true → RelE K O ρ σ H e st → Rep K O ρ st H w v → (sem gl F t).k w e st = .nx e' st →
    (∀ σ', RelE K O ρ σ' H e' st → L2.wipe σ' vs = L2.wipe σ vs → Q σ' H) → gE K t v σ H Q
  | .v i x p, σ, e, e', w, v, hn, E, r, h, q => by
    have h' : X.nx (e.set i (some w)) st = .nx e' st := h
    cases h'
    show Q (σ.set i (some v)) H
    exact q _ (E.set r i) (wipe_set σ vs (by simpa [nmT] using hn) _)
  | .tup a k p, σ, e, e', w, v, hn, E, r, h, q => by
    have h' : kTup (cnt a) (sem gl F a) w e st = .nx e' st := h
    unfold kTup at h'
    cases w with
    | r m => cases h'
    | p d =>
      cases d with
      | tuple xs =>
        obtain ⟨t, us, rfl, l, rr⟩ := RepP.tup_inv r
        have hk : (sem gl F a).ks (xs.map .p) e st = .nx e' st := by
          have h2 : (if (xs.map Vl.p).length = cnt a then (sem gl F a).ks (xs.map .p) e st else .no) = .nx e' st := h'
          split at h2
          · exact h2
          · cases h2
        refine ⟨t, us, rfl, l, ?_, gEs_ok gl F vs a σ e e' (xs.map .p) us hn E rr.reps hk q⟩
        have := (gEs_st gl F vs a e e' st st _ hn hk).2
        rw [← rr.len, ← this]
        simp
      | _ => cases h'
theorem gEs_ok (gl : List P) (F : Nat → List Vl → Sr → R Vl) (vs : List Nat) {Q : Sg → Hp → Prop} : ∀ (t : T) (σ : Sg) (e e' : En) (ws : List Vl) (us : List V), nmTs vs t = true → RelE K O ρ σ H e st → Reps K O ρ st H ws us → (sem gl F t).ks ws e st = .nx e' st →
    (∀ σ', RelE K O ρ σ' H e' st → L2.wipe σ' vs = L2.wipe σ vs → Q σ' H) → gEs K t us σ H Q
  | .nil, σ, e, e', ws, us, hn, E, r, h, q => by
    have h' : ksNil ws e st = .nx e' st := h
    cases r with
    | nil => cases h'; exact ⟨rfl, q _ E rfl⟩
    | cons _ _ => cases h'
  | .cons a b, σ, e, e', ws, us, hn, E, r, h, Qf => by
    have h' : ksCons (sem gl F a) (sem gl F b) ws e st = .nx e' st := h
    have hn' : nmT vs a = true ∧ nmTs vs b = true := by simpa [nmTs] using hn
    cases r with
    | nil => cases h'
    | @cons w ws v us r rs =>
      have h2 : ((sem gl F a).k w e st).th (fun e s => (sem gl F b).ks ws e s) = .nx e' st := h'
      cases q : (sem gl F a).k w e st with
      | nx e1 s1 =>
        rw [q] at h2
        have h3 : (sem gl F b).ks ws e1 s1 = .nx e' st := h2
        have e0 := (gE_st gl F vs a e e1 st s1 w hn'.1 q).symm
        subst e0
        refine ⟨v, us, rfl, gE_ok gl F vs a σ e e1 w v hn'.1 E r q fun σ1 E1 w1 => ?_⟩
        exact gEs_ok gl F vs b σ1 e1 e' ws us hn'.2 E1 rs h3 fun σ' E' w' => Qf σ' E' (w'.trans w1)
      | _ => rw [q] at h2; cases h2
end
end
/-! ### a list that is being made -/
section
variable {K : Fg} {O O' : Addr → Prop} {ρ ρ1 : Nat → Addr} {σ : Sg} {H H1 : Hp} {e : En} {st st1 : Sr} {D : Addr} {acc us : List V}
/-- what is being made -/
def Made : HO → Prop
  | .lst _ => True
  | .dK _ => True
  | _ => False
theorem LsD.ownO {hu : HO} (hO : O D) {a : Addr} {vs : List V} (h : LsD K (Mt O ρ st) H a vs) : LsD K (Mt O ρ st) (L2.upd H D hu) a vs := by
  rcases h with ⟨h, n⟩ | h
  · have : a ≠ D := fun z => n (.inl (z ▸ hO))
    refine .inl ⟨?_, n⟩
    unfold L2.Rd
    rw [upd_ne this]
    exact h
  · exact .inr h
theorem RepP.ownO {ho hu : HO} (hO : O D) (hD : H D = some ho) (hm : Made ho) {d : P} {v : V} (h : RepP K (Mt O ρ st) H d v) : RepP K (Mt O ρ st) (L2.upd H D hu) d v :=
  h.mono ⟨fun _ _ q => q.ownO hO, fun a ks q => by
    have : a ≠ D := fun z => q.2 (.inl (z ▸ hO))
    refine ⟨?_, q.2⟩
    rw [upd_ne this]
    exact q.1, fun a o e f => by
    have : a ≠ D := fun z => by
      subst z
      rw [hD] at e; cases e
      cases ho <;> first | exact hm | cases f
    rw [upd_ne this]
    exact e⟩
theorem ReqP.ownO {ho hu : HO} (hO : O D) (hD : H D = some ho) (hm : Made ho) : ∀ {d : List P} {v : List V}, ReqP K (Mt O ρ st) H d v → ReqP K (Mt O ρ st) (L2.upd H D hu) d v
  | _, _, .nil => .nil
  | _, _, .cons h r => .cons (h.ownO hO hD hm) (ReqP.ownO hO hD hm r)
theorem RelS.ownO {ho hu : HO} (S : RelS K O ρ H st) (hO : O D) (hD : H D = some ho) (hm : Made ho) : RelS K O ρ (L2.upd H D hu) st := by
  refine ⟨fun n o h => ?_, S.inj, S.out, fun a ha => ?_⟩
  · obtain ⟨u, e1, e2⟩ := S.ob n o h
    have : ρ n ≠ D := fun z => S.out n (List.getElem?_eq_some_iff.mp h).1 (z ▸ hO)
    refine ⟨u, by rw [upd_ne this]; exact e1, ?_⟩
    cases o with
    | lp z xs => obtain ⟨vs, rfl, r⟩ := e2; exact ⟨vs, rfl, r.ownO hO hD hm⟩
    | lr ns => exact e2
    | dp z kvs => obtain ⟨ks, q, r⟩ := e2; exact ⟨ks, q, r.map fun h => h.ownO hO hD hm⟩
    | no => exact e2.elim
  · by_cases q : a = D
    · subst q; rw [upd_same]; simp
    · rw [upd_ne q]; exact S.al a ha
theorem LsD.own (hO : O D) {a : Addr} {vs : List V} (h : LsD K (Mt O ρ st) H a vs) : LsD K (Mt O ρ st) (L2.upd H D (.lst us)) a vs := h.ownO hO
theorem RepP.own (hO : O D) (hD : H D = some (.lst acc)) {d : P} {v : V} (h : RepP K (Mt O ρ st) H d v) : RepP K (Mt O ρ st) (L2.upd H D (.lst us)) d v := h.ownO hO hD trivial
theorem ReqP.own (hO : O D) (hD : H D = some (.lst acc)) {d : List P} {v : List V} (h : ReqP K (Mt O ρ st) H d v) : ReqP K (Mt O ρ st) (L2.upd H D (.lst us)) d v := h.ownO hO hD trivial
theorem RelS.own (S : RelS K O ρ H st) (hO : O D) (hD : H D = some (.lst acc)) : RelS K O ρ (L2.upd H D (.lst us)) st := S.ownO hO hD trivial
theorem Stp.own (s : Stp ρ1 st1 H1 ρ st H) (hD : H1 D = none) {h : HO} : Stp ρ1 st1 H1 ρ st (L2.upd H D h) :=
  ⟨s.le, s.ag, s.lv, fun a o e n t => by rw [upd_ne (ne_of_none e hD)]; exact s.kp a o e n t, s.lr, fun a ps e => by rw [upd_ne (ne_of_none e hD)]; exact s.tb a ps e, s.lp, s.dp⟩
/-- an owned place becomes one of the store -/
theorem adoptO {ob : Ob} {ho : HO} (S : RelS K O' ρ H st) (hO : ∀ a, O a → O' a) (hO' : ∀ a, O' a → O a ∨ a = D) (hD : O' D) (np : ¬ O D) (hp : H D = some ho)
    (r : (∀ a, H a ≠ none → Mt O (ext ρ st.length D) (st ++ [ob]) a → Mt O' ρ st a) → RepOb K O (ext ρ st.length D) (st ++ [ob]) H ob ho) : RelS K O (ext ρ st.length D) H (st ++ [ob]) := by
  have mt : ∀ a, H a ≠ none → Mt O (ext ρ st.length D) (st ++ [ob]) a → Mt O' ρ st a := fun a _ q => by
    rcases q with q | ⟨n, o, h1, h2, h3⟩
    · exact .inl (hO a q)
    · by_cases hn : n = st.length
      · subst hn
        rw [ext_same] at h3
        exact .inl (h3 ▸ hD)
      · have lt : n < st.length := by
          have := (List.getElem?_eq_some_iff.mp h1).1
          simp at this; omega
        rw [List.getElem?_append_left lt] at h1
        rw [ext_ne hn] at h3
        exact .inr ⟨n, o, h1, h2, h3⟩
  refine ⟨fun n o e => ?_, fun n k hn hk q => ?_, fun n hn => ?_, fun a ha => S.al a (hO a ha)⟩
  · by_cases hn : n = st.length
    · subst hn
      rw [List.getElem?_append_right (Nat.le_refl _)] at e
      simp at e
      subst e
      exact ⟨_, by rw [ext_same]; exact hp, r mt⟩
    · have lt : n < st.length := by
        have := (List.getElem?_eq_some_iff.mp e).1
        simp at this; omega
      rw [List.getElem?_append_left lt] at e
      obtain ⟨u, e1, e2⟩ := S.ob n o e
      refine ⟨u, by rw [ext_ne hn]; exact e1, ?_⟩
      cases o with
      | lp z xs => obtain ⟨ws, rfl, r⟩ := e2; exact ⟨ws, rfl, r.oth mt⟩
      | lr ns =>
        obtain ⟨e2, e3⟩ := e2
        refine ⟨?_, fun n hn => by have := e3 n hn; simp; omega⟩
        rw [e2]
        congr 1
        refine List.map_congr_left fun n hn => ?_
        rw [ext_ne (Nat.ne_of_lt (e3 n hn))]
      | dp z kvs => obtain ⟨ks, q, r⟩ := e2; exact ⟨ks, q, r.map fun h => h.oth mt⟩
      | no => exact e2.elim
  · have old : ∀ n, n < st.length → ρ n ≠ D := fun n hn z => S.out n hn (z ▸ hD)
    simp only [List.length_append, List.length_cons, List.length_nil] at hn hk
    by_cases h1 : n = st.length <;> by_cases h2 : k = st.length
    · omega
    · subst h1
      rw [ext_same, ext_ne h2] at q
      exact absurd q.symm (old k (by omega))
    · subst h2
      rw [ext_same, ext_ne h1] at q
      exact absurd q (old n (by omega))
    · rw [ext_ne h1, ext_ne h2] at q
      exact S.inj n k (by omega) (by omega) q
  · simp only [List.length_append, List.length_cons, List.length_nil] at hn
    by_cases h1 : n = st.length
    · subst h1
      rw [ext_same]
      exact np
    · rw [ext_ne h1]
      exact fun z => S.out n (by omega) (hO _ z)
theorem adopt {xs : List P} {vs : List V} (S : RelS K O' ρ H st) (hO : ∀ a, O a → O' a) (hO' : ∀ a, O' a → O a ∨ a = D) (hD : O' D) (np : ¬ O D) (hp : H D = some (.lst vs)) (r : ReqP K (Mt O' ρ st) H xs vs) : RelS K O (ext ρ st.length D) H (st ++ [.lp 0 xs]) :=
  adoptO S hO hO' hD np hp fun mt => ⟨vs, rfl, r.oth mt⟩
theorem adoptD {xs : List (P × P)} {ks : List (L2.Key × V)} (S : RelS K O' ρ H st) (hO : ∀ a, O a → O' a) (hO' : ∀ a, O' a → O a ∨ a = D) (hD : O' D) (np : ¬ O D) (hp : H D = some (.dK ks)) (r : KReq K (Mt O' ρ st) H xs ks) : RelS K O (ext ρ st.length D) H (st ++ [.dp 0 xs]) :=
  adoptO S hO hO' hD np hp fun mt => ⟨ks, .inl ⟨rfl, rfl⟩, r.map fun h => h.oth mt⟩
theorem Stp.adopt (s : Stp ρ1 st1 H1 ρ st H) (hD : H1 D = none) {o : Ob} : Stp ρ1 st1 H1 (ext ρ st.length D) (st ++ [o]) H := by
  refine ⟨by have := s.le; simp; omega, fun n hn => ?_, fun a ⟨n, u, h1, h2, h3⟩ => ?_, s.kp, fun n ns e => ?_, s.tb, fun n z xs e => ?_, fun n z xs e => ?_⟩
  · have := s.le
    rw [ext_ne (by omega)]
    exact s.ag n hn
  · by_cases hn : n = st.length
    · subst hn
      rw [ext_same] at h3
      subst h3
      exact .inr hD
    · have lt : n < st.length := by
        have := (List.getElem?_eq_some_iff.mp h1).1
        simp at this; omega
      rw [List.getElem?_append_left lt] at h1
      rw [ext_ne hn] at h3
      exact s.lv a ⟨n, u, h1, h2, h3⟩
  · obtain ⟨ns', h⟩ := s.lr n ns e
    exact ⟨ns', by rw [List.getElem?_append_left (List.getElem?_eq_some_iff.mp h).1]; exact h⟩
  · obtain ⟨z', xs', h⟩ := s.lp n z xs e
    exact ⟨z', xs', by rw [List.getElem?_append_left (List.getElem?_eq_some_iff.mp h).1]; exact h⟩
  · obtain ⟨z', xs', h⟩ := s.dp n z xs e
    exact ⟨z', xs', by rw [List.getElem?_append_left (List.getElem?_eq_some_iff.mp h).1]; exact h⟩
/-- fewer owned places -/
theorem RelS.less (S : RelS K O' ρ H st) (hO : ∀ a, O a → O' a) : RelS K O ρ H st := by
  refine ⟨fun n o h => ?_, S.inj, fun n h q => S.out n h (hO _ q), fun a h => S.al a (hO a h)⟩
  obtain ⟨u, e1, e2⟩ := S.ob n o h
  refine ⟨u, e1, ?_⟩
  cases o with
  | lp z xs => obtain ⟨vs, rfl, r⟩ := e2; exact ⟨vs, rfl, r.oth fun a _ q => q.elim (fun q => .inl (hO a q)) .inr⟩
  | lr ns => exact e2
  | dp z kvs => obtain ⟨ks, q, r⟩ := e2; exact ⟨ks, q, r.map fun h => h.oth fun a _ q => q.elim (fun q => .inl (hO a q)) .inr⟩
  | no => exact e2.elim
end
end Mi
end
section
set_option Elab.async false
set_option linter.all false
set_option maxRecDepth 100000
set_option maxHeartbeats 1000000
/-! M14: list comprehensions as values. -/
namespace Mi
open PySem
open L2 (V HO Hp upd upd_same upd_ne SqL SqT Rd Cx Inv PE PT PA PS PSs PG PGs PI TE TT TA TS TG TGs TI It VK XK Ends RelV Vals ne_of_none OpR R2 EP CallR UnR IxR SlR TruR Gl Vis Loc Itl Itt Itr wipe)
abbrev W0 : Str → Option Addr → Hp → Prop := fun _ _ _ => False
theorem cpL_ok {tg : Vl → En → Sr → X} {cond : En → Sr → R Bool} {elt : En → Sr → R Vl} {e : En} : ∀ (vs : List Vl) (s : Sr), (∃ xs s', cpL tg cond elt e vs s = .ok xs s') ∨ cpL tg cond elt e vs s = .no
  | [], s => .inl ⟨[], s, rfl⟩
  | v :: r, s => by
    simp only [cpL]
    split
    · rename_i e1 s1 _
      split
      · rename_i s2 _
        split
        · rename_i w s3 _
          split
          · rename_i x s4 _
            split
            · exact .inl ⟨_, _, rfl⟩
            · exact .inr rfl
          · exact .inr rfl
        · exact .inr rfl
      · rename_i s2 _
        exact cpL_ok r s2
      · exact .inr rfl
    · exact .inr rfl
theorem cpL_cons {tg : Vl → En → Sr → X} {cond : En → Sr → R Bool} {elt : En → Sr → R Vl} {e : En} {v : Vl} {r : List Vl} {s : Sr} : cpL tg cond elt e (v :: r) s = cpT tg cond elt e v s (cpL tg cond elt e r) := rfl
theorem cpR_succ {tg : Vl → En → Sr → X} {cond : En → Sr → R Bool} {elt : En → Sr → R Vl} {n : Nat} {e : En} {k i : Nat} {s : Sr} : cpR tg cond elt n e (k + 1) i s = match s[n]? with
    | some (.lp _ xs) => match xs[i]? with
      | some x => cpT tg cond elt e (.p x) s (cpR tg cond elt n e k (i + 1))
      | none => .ok [] s
    | some (.lr xs) => match xs[i]? with
      | some m => cpT tg cond elt e (.r m) s (cpR tg cond elt n e k (i + 1))
      | none => .ok [] s
    | _ => .no := rfl
section
variable {C : Cx} {W : Str → Option Addr → Hp → Prop} {fi : En → Sr → R (List Vl ⊕ Nat)} {gl : List P} {F : Nat → List Vl → Sr → R Vl} {tg cond elt : T}
/-- a turn of the block -/
theorem cp_turn {O' : Addr → Prop} {ρ1 ρ2 : Nat → Addr} {st1 st2 : Sr} {H1 H : Hp} {σ : Sg} {e : En} {v : Vl} {x : V} {D : Addr} {acc : List V} {accP : List P} {rest : Sr → R (List P)} {xs : List P} {s'' : Sr} {vs : List Nat} {N : Hp → Prop}
    (hn : nmT vs tg = true) (S1 : ∀ a, H1 a = none → a ≠ D → True) (s2 : Stp ρ1 st1 H1 ρ2 st2 H) (S2 : RelS C.K O' ρ2 H st2) (S1' : RelS C.K (fun _ => False) ρ1 H1 st1) (E2 : RelE C.K O' ρ2 (wipe σ vs) H (wipeE e vs) st2) (hO : O' D) (h1D : H1 D = none) (hD : H D = some (.lst acc)) (hz : acc.length < sizeLine)
    (ra : ReqP C.K (Mt O' ρ2 st2) H accP acc) (rv : Rep C.K O' ρ2 st2 H v x)
    (h : cpT (sem gl F tg).k (cnd (sem gl F cond)) (sem gl F elt).e (wipeE e vs) v st2 rest = .ok xs s'')
    (hN : ∀ ρ3 st3 H3 acc3 accP3 ys, Stp ρ1 st1 H1 ρ3 st3 H3 → StpX (fun a => a = D) ρ2 st2 H ρ3 st3 H3 → RelS C.K O' ρ3 H3 st3 → RelE C.K O' ρ3 (wipe σ vs) H3 (wipeE e vs) st3 → H3 D = some (.lst acc3) → acc3.length ≤ acc.length + 1 → ReqP C.K (Mt O' ρ3 st3) H3 accP3 acc3 → rest st3 = .ok ys s'' → accP3 ++ ys = accP ++ xs → N H3) :
    gE C.K tg x (wipe σ vs) H fun σ2 H2 => wipe σ2 vs = wipe σ vs ∧ TrT C.K W0 (cnd (sem gl F cond)) σ2 H2 fun b H3 =>
      if b = true then TrE C.K W0 (sem gl F elt).e σ2 H3 fun y H4 => ∃ acc, H4 D = some (.lst acc) ∧ acc.length < sizeLine ∧ N (upd H4 D (.lst (acc ++ [y]))) else N H3 := by
  unfold cpT at h
  cases q : (sem gl F tg).k v (wipeE e vs) st2 with
  | nx e1 s1 =>
    rw [q] at h
    have e0 := (gE_st gl F vs tg _ e1 st2 s1 v hn q).symm
    subst e0
    dsimp only at h
    refine gE_ok gl F vs tg (wipe σ vs) _ e1 v x hn E2 rv q fun σ' E' w' => ⟨by rw [w', wipe_wipe], ?_⟩
    have R' : Rel C.K O' ρ2 σ' H e1 st2 := ⟨S2, E'⟩
    refine ⟨O', ρ2, e1, st2, R', ?_⟩
    cases qc : cnd (sem gl F cond) e1 st2 with
    | ok b s3 =>
      rw [qc] at h
      intro ρ3 H3 b' t3 S3 rb
      cases (show b = b' from rb)
      have R3 := R'.go t3 S3
      have nl : ∀ {ρ : Nat → Addr} {st : Sr} {H : Hp}, RelS C.K O' ρ H st → ¬ live ρ st D := fun S ⟨n, o, q1, q2, q3⟩ => S.out n (List.getElem?_eq_some_iff.mp q1).1 (q3 ▸ hO)
      have hD3 : H3 D = some (.lst acc) := t3.kp D _ hD (nl S2) fun ps z => nomatch z
      have u3 := s2.trans S1' (S2.less fun _ z => z.elim) t3
      cases b with
      | false => exact hN ρ3 s3 H3 acc accP xs u3 (t3.x S2 S3) S3 (E2.stp S2 t3) hD3 (Nat.le_succ _) (ra.stp S2 t3) h rfl
      | true =>
        dsimp only at h
        refine ⟨O', ρ3, e1, s3, R3, ?_⟩
        cases qe : (sem gl F elt).e e1 s3 with
        | ok w s4 =>
          rw [qe] at h
          intro ρ4 H4 y t4 S4 ry
          dsimp only at h
          cases qp : toP w s4 with
          | none => rw [qp] at h; cases h
          | some pr =>
            obtain ⟨d, s5⟩ := pr
            rw [qp] at h
            dsimp only at h
            obtain ⟨a1, a2, a3⟩ := toP_ok S4 qp ry
            have hD4 : H4 D = some (.lst acc) := t4.kp D _ hD3 (nl S3) fun ps z => nomatch z
            have u4 := u3.trans S1' (S3.less fun _ z => z.elim) (t4.trans S3 S4 a1)
            cases qr : rest s5 with
            | ok ys s6 =>
              rw [qr] at h
              cases h
              refine ⟨acc, hD4, hz, hN ρ4 s5 _ (acc ++ [y]) (accP ++ [d]) ys (u4.own h1D) (((t3.trans S2 S3 (t4.trans S3 S4 a1)).x S2 a2).own rfl) (a2.own hO hD4) ?_ upd_same (by simp) ?_ qr (by simp)⟩
              · have E4 := ((E2.stp S2 t3).stp S3 t4).stp S4 a1
                refine ⟨E4.ln, fun i x hx => ?_⟩
                obtain ⟨u, g1, g2⟩ := E4.sl i x hx
                refine ⟨u, g1, ?_⟩
                cases x with
                | p d => exact RepP.own hO hD4 g2
                | r n => exact g2
              · exact ReqP.own hO hD4 ((((ra.stp S2 t3).stp S3 t4).stp S4 a1).app (.cons a3 .nil))
            | ex a b c => rw [qr] at h; cases h
            | no => rw [qr] at h; cases h
        | ex a b c => rw [qe] at h; cases h
        | no => rw [qe] at h; cases h
    | ex a b c => rw [qc] at h; cases h
    | no => rw [qc] at h; cases h
  | _ => rw [q] at h; cases h
/-- the new list, handed out -/
theorem cp_end {O : Addr → Prop} {ρ1 ρ : Nat → Addr} {st1 st : Sr} {H1 H : Hp} {m : Bool} {accP : List P} {acc : List V} {D : Addr} {Q : VK} (S1 : RelS C.K O ρ1 H1 st1) (h : End C.K W O (RpV C.K O) ρ1 st1 H1 (mkLst m accP st) Q) (hD1 : H1 D = none) (s : Stp ρ1 st1 H1 ρ st H)
    (S : RelS C.K (fun a => O a ∨ a = D) ρ H st) (hD : H D = some (.lst acc)) (r : ReqP C.K (Mt (fun a => O a ∨ a = D) ρ st) H accP acc) : Q (.ref D) H := by
  have nO : ¬ O D := fun q => S1.al D q hD1
  unfold mkLst at h
  split at h
  · exact h _ H _ (s.adopt hD1) (adopt S (fun _ q => .inl q) (fun _ q => q) (.inr rfl) nO hD r) ⟨by simp, by rw [ext_same]⟩
  · have S' := S.less (O := O) fun _ q => .inl q
    refine h ρ H _ s S' (RepP.lst (.inl ⟨.inl hD, fun q => ?_⟩) (r.oth fun a _ q => q.elim (fun q => .inl (.inl q)) .inr))
    rcases q with q | ⟨n, o, q1, q2, q3⟩
    · exact nO q
    · exact S.out n (List.getElem?_eq_some_iff.mp q1).1 (.inr q3)
theorem RelS.newOwn {K : Fg} {O : Addr → Prop} {ρ : Nat → Addr} {H : Hp} {st : Sr} {D : Addr} {ho : HO} (S : RelS K O ρ H st) (hD : H D = none) : RelS K (fun a => O a ∨ a = D) ρ (L2.upd H D ho) st := by
  have wid : Wid O (fun a => O a ∨ a = D) H := fun a q => q.elim .inl fun q => .inr (q ▸ hD)
  refine ⟨fun n o e => ?_, S.inj, fun n hn q => ?_, fun a q => ?_⟩
  · obtain ⟨w, e1, e2⟩ := S.ob n o e
    refine ⟨w, by rw [upd_ne (ne_of_none e1 hD)]; exact e1, ?_⟩
    cases o with
    | lp z xs => obtain ⟨vs, rfl, r⟩ := e2; exact ⟨vs, rfl, r.go S wid (Stp.new S hD)⟩
    | lr ns => exact e2
    | dp z kvs => obtain ⟨ks, q, r⟩ := e2; exact ⟨ks, q, r.map fun h => h.go S wid (Stp.new S hD)⟩
    | no => exact e2.elim
  · rcases q with q | q
    · exact S.out n hn q
    · obtain ⟨w, e1, _⟩ := S.ob n st[n] (by simp [hn])
      rw [q, hD] at e1; cases e1
  · by_cases z : a = D
    · subst z; rw [upd_same]; simp
    · rw [upd_ne z]
      exact q.elim (S.al a) fun q => absurd q z
theorem RelE.newOwn {K : Fg} {O : Addr → Prop} {ρ : Nat → Addr} {σ : Sg} {H : Hp} {e : En} {st : Sr} {D : Addr} {ho : HO} (S : RelS K O ρ H st) (E : RelE K O ρ σ H e st) (hD : H D = none) : RelE K (fun a => O a ∨ a = D) ρ σ (L2.upd H D ho) e st := by
  have wid : Wid O (fun a => O a ∨ a = D) H := fun a q => q.elim .inl fun q => .inr (q ▸ hD)
  refine ⟨E.ln, fun i x h => ?_⟩
  obtain ⟨v, h1, h2⟩ := E.sl i x h
  refine ⟨v, h1, ?_⟩
  cases x with
  | p d => exact RepP.go S wid (Stp.new S hD) h2
  | r n => exact h2
theorem cpAll_inl {a b c : Sm} {e : En} {vs : List Vl} {s : Sr} (h : vs.length ≤ lim) : cpAll a b c e (.inl vs) s = cpL a.k (cnd b) c.e e vs s := by
  show (if vs.length ≤ lim then cpL a.k (cnd b) c.e e vs s else .no) = _
  exact if_pos h
theorem cpAll_no {a b c : Sm} {e : En} {vs : List Vl} {s : Sr} (h : ¬ vs.length ≤ lim) : cpAll a b c e (.inl vs) s = .no := by
  show (if vs.length ≤ lim then cpL a.k (cnd b) c.e e vs s else .no) = _
  exact if_neg h
theorem cpT_ok {tg : Vl → En → Sr → X} {cond : En → Sr → R Bool} {elt : En → Sr → R Vl} {e : En} {v : Vl} {s : Sr} {rest : Sr → R (List P)} (h : ∀ s, (∃ xs s', rest s = .ok xs s') ∨ rest s = .no) : (∃ xs s', cpT tg cond elt e v s rest = .ok xs s') ∨ cpT tg cond elt e v s rest = .no := by
  unfold cpT
  split
  · split
    · split
      · split
        · split
          · exact .inl ⟨_, _, rfl⟩
          · exact .inr rfl
        · exact .inr rfl
      · exact .inr rfl
    · exact h _
    · exact .inr rfl
  · exact .inr rfl
theorem cpR_ok {tg : Vl → En → Sr → X} {cond : En → Sr → R Bool} {elt : En → Sr → R Vl} {n : Nat} {e : En} : ∀ (k i : Nat) (s : Sr), (∃ xs s', cpR tg cond elt n e k i s = .ok xs s') ∨ cpR tg cond elt n e k i s = .no
  | 0, i, s => .inr rfl
  | k + 1, i, s => by
    rw [cpR_succ]
    split
    · split
      · exact cpT_ok (cpR_ok k (i + 1))
      · exact .inl ⟨_, _, rfl⟩
    · split
      · exact cpT_ok (cpR_ok k (i + 1))
      · exact .inl ⟨_, _, rfl⟩
    · exact .inr rfl
theorem cp_imp {m : Bool} {own : List (Str × Nat)} {σ : Sg} {H : Hp} {Q : VK} (hn : nmT (own.map (·.2)) tg = true) (h0 : TrE C.K W (fun e s => (fi e s).bd fun w s => (cpAll (sem gl F tg) (sem gl F cond) (sem gl F elt) (wipeE e (own.map (·.2))) w s).bd fun xs s => mkLst m xs s) σ H Q) :
    L2.tLc (TrI C.K W fi) (gE C.K tg) (TrT C.K W0 (cnd (sem gl F cond))) (TrE C.K W0 (sem gl F elt).e) (own.map (·.2)) σ H Q :=
  let ⟨O, ρ, e, st, R, h⟩ := h0; ⟨O, ρ, e, st, R, End.bd R.S h fun w st1 ρ1 H1 J _ s1 S1 r1 h1 D hD => by
    have R1 := R.go s1 S1
    have wid : Wid O (fun a => O a ∨ a = D) H1 := fun a q => q.elim .inl fun q => .inr (q ▸ hD)
    have Sf : RelS C.K (fun _ => False) ρ1 H1 st1 := S1.less fun _ q => q.elim
    have S0 := S1.newOwn (ho := .lst []) hD
    have E0 := (RelE.newOwn (ho := .lst []) S1 R1.E hD).wipe (own.map (·.2))
    have s0 : Stp ρ1 st1 H1 ρ1 st1 (upd H1 D (.lst [])) := Stp.new S1 hD
    have ltl : ∀ {k : Nat}, k < lim → k < sizeLine := fun {k} hk => Nat.lt_of_lt_of_le hk (by decide +kernel)
    have le1 : lim < sizeLine := by decide +kernel
    cases w with
    | inl vs =>
      have okI : ItOk C.K O ρ1 st1 H1 vs J := r1
      by_cases hz : vs.length ≤ lim
      · have h2 : End C.K W O (RpV C.K O) ρ1 st1 H1 ((cpL (sem gl F tg).k (cnd (sem gl F cond)) (sem gl F elt).e (wipeE e (own.map (·.2))) vs st1).bd fun xs s => mkLst m xs s) Q := by
          rw [← cpAll_inl hz]
          exact h1
        refine ⟨fun i k H => k = vs.length - i ∧ ∃ ρ st acc accP xs s'', Stp ρ1 st1 H1 ρ st H ∧ RelS C.K (fun a => O a ∨ a = D) ρ H st ∧ RelE C.K (fun a => O a ∨ a = D) ρ (wipe σ (own.map (·.2))) H (wipeE e (own.map (·.2))) st ∧ H D = some (.lst acc) ∧ acc.length ≤ i ∧ ReqP C.K (Mt (fun a => O a ∨ a = D) ρ st) H accP acc ∧
          cpL (sem gl F tg).k (cnd (sem gl F cond)) (sem gl F elt).e (wipeE e (own.map (·.2))) (vs.drop i) st = .ok xs s'' ∧ End C.K W O (RpV C.K O) ρ1 st1 H1 (mkLst m (accP ++ xs) s'') Q, ⟨vs.length, by simp, ?_⟩, ?_⟩
        · rcases cpL_ok (tg := (sem gl F tg).k) (cond := cnd (sem gl F cond)) (elt := (sem gl F elt).e) (e := wipeE e (own.map (·.2))) vs st1 with ⟨xs, s', q⟩ | q
          · rw [q] at h2
            exact ⟨ρ1, st1, [], [], xs, s', s0, S0, E0, upd_same, Nat.le_refl _, .nil, q, h2⟩
          · rw [q] at h2; exact h2.elim
        · rintro i k H ⟨rfl, ρ2, st2, acc, accP, xs, s'', t2, S2, E2, hD2, hl, ra, hc2, hq⟩
          have oki := okI (fun _ => False) (fun a => O a ∨ a = D) ρ2 st2 H XO.no wid (t2.x S1 S2) S2 i
          by_cases hlt : i < vs.length
          · obtain ⟨g1, g2⟩ := oki.1 vs[i] (by simp [hlt])
            rw [show vs.drop i = vs[i] :: vs.drop (i + 1) from List.drop_eq_getElem_cons hlt, cpL_cons] at hc2
            refine .inr ⟨g1, fun H => ∃ ρ st acc accP xs s'', Stp ρ1 st1 H1 ρ st H ∧ RelS C.K (fun a => O a ∨ a = D) ρ H st ∧ RelE C.K (fun a => O a ∨ a = D) ρ (wipe σ (own.map (·.2))) H (wipeE e (own.map (·.2))) st ∧ H D = some (.lst acc) ∧ acc.length ≤ i + 1 ∧ ReqP C.K (Mt (fun a => O a ∨ a = D) ρ st) H accP acc ∧
              cpL (sem gl F tg).k (cnd (sem gl F cond)) (sem gl F elt).e (wipeE e (own.map (·.2))) (vs.drop (i + 1)) st = .ok xs s'' ∧ End C.K W O (RpV C.K O) ρ1 st1 H1 (mkLst m (accP ++ xs) s'') Q, fun H' q => ⟨vs.length - (i + 1), by omega, rfl, q⟩, fun x H' y => ?_⟩
            obtain ⟨u1, u2, u3⟩ := g2 x H' y
            have hD3 : H' D = some (.lst acc) := u1.kp D _ hD2 (fun ⟨n, o, q1, q2, q3⟩ => S2.out n (List.getElem?_eq_some_iff.mp q1).1 (.inr q3)) fun ps z => nomatch z
            exact cp_turn hn (fun _ _ _ => trivial) (t2.trans Sf (S2.less fun _ q => q.elim) u1) u2 Sf (E2.stp S2 u1) (.inr rfl) hD hD3 (by omega) (ra.stp S2 u1) u3 hc2
              fun ρ3 st3 H3 acc3 accP3 ys v1 _ v2 v3 v4 v5 v6 v7 v8 => ⟨ρ3, st3, acc3, accP3, ys, s'', v1, v2, v3, v4, by omega, v6, v7, by rw [v8]; exact hq⟩
          · refine .inl ⟨oki.2 (by omega), ?_⟩
            rw [List.drop_eq_nil_of_le (by omega)] at hc2
            cases hc2
            rw [List.append_nil] at hq
            exact cp_end S1 hq hD t2 S2 hD2 ra
      · rw [cpAll_no hz] at h1
        exact h1.elim
    | inr n =>
      obtain ⟨hn1, rfl⟩ : n < st1.length ∧ J = Itl C.K (ρ1 n) := r1
      have h2 : End C.K W O (RpV C.K O) ρ1 st1 H1 ((cpR (sem gl F tg).k (cnd (sem gl F cond)) (sem gl F elt).e n (wipeE e (own.map (·.2))) bigN 0 st1).bd fun xs s => mkLst m xs s) Q := h1
      refine ⟨fun i k H => i + k = bigN ∧ ∃ ρ st acc accP xs s'', Stp ρ1 st1 H1 ρ st H ∧ RelS C.K (fun a => O a ∨ a = D) ρ H st ∧ RelE C.K (fun a => O a ∨ a = D) ρ (wipe σ (own.map (·.2))) H (wipeE e (own.map (·.2))) st ∧ H D = some (.lst acc) ∧ acc.length ≤ i ∧ ReqP C.K (Mt (fun a => O a ∨ a = D) ρ st) H accP acc ∧
        cpR (sem gl F tg).k (cnd (sem gl F cond)) (sem gl F elt).e n (wipeE e (own.map (·.2))) k i st = .ok xs s'' ∧ End C.K W O (RpV C.K O) ρ1 st1 H1 (mkLst m (accP ++ xs) s'') Q, ⟨bigN, by simp, ?_⟩, ?_⟩
      · rcases cpR_ok (tg := (sem gl F tg).k) (cond := cnd (sem gl F cond)) (elt := (sem gl F elt).e) (n := n) (e := wipeE e (own.map (·.2))) bigN 0 st1 with ⟨xs, s', q⟩ | q
        · rw [q] at h2
          exact ⟨ρ1, st1, [], [], xs, s', s0, S0, E0, upd_same, Nat.le_refl _, .nil, q, h2⟩
        · rw [q] at h2; exact h2.elim
      · rintro i k H ⟨hk, ρ2, st2, acc, accP, xs, s'', t2, S2, E2, hD2, hl, ra, hc2, hq⟩
        cases k with
        | zero => cases hc2
        | succ k =>
          have big : bigN = lim := rfl
          have hn2 : n < st2.length := Nat.lt_of_lt_of_le hn1 t2.le
          obtain ⟨w, f1, f2⟩ := S2.ob n st2[n] (by simp [hn2])
          rw [t2.ag n hn1] at f1
          rw [cpR_succ, show st2[n]? = some st2[n] by simp [hn2]] at hc2
          have step : ∀ (v : Vl) (vs : List V) (u : V), w = .lst vs → vs[i]? = some u → Rep C.K (fun a => O a ∨ a = D) ρ2 st2 H v u → cpT (sem gl F tg).k (cnd (sem gl F cond)) (sem gl F elt).e (wipeE e (own.map (·.2))) v st2 (cpR (sem gl F tg).k (cnd (sem gl F cond)) (sem gl F elt).e n (wipeE e (own.map (·.2))) k (i + 1)) = .ok xs s'' →
              ((Itl C.K (ρ1 n)).go i H ∧ ∃ Nx : Hp → Prop, (∀ H', Nx H' → ∃ m', m' < k + 1 ∧ i + 1 + m' = bigN ∧ ∃ ρ st acc accP xs s'', Stp ρ1 st1 H1 ρ st H' ∧ RelS C.K (fun a => O a ∨ a = D) ρ H' st ∧ RelE C.K (fun a => O a ∨ a = D) ρ (wipe σ (own.map (·.2))) H' (wipeE e (own.map (·.2))) st ∧ H' D = some (.lst acc) ∧ acc.length ≤ i + 1 ∧ ReqP C.K (Mt (fun a => O a ∨ a = D) ρ st) H' accP acc ∧
                cpR (sem gl F tg).k (cnd (sem gl F cond)) (sem gl F elt).e n (wipeE e (own.map (·.2))) m' (i + 1) st = .ok xs s'' ∧ End C.K W O (RpV C.K O) ρ1 st1 H1 (mkLst m (accP ++ xs) s'') Q) ∧
                ∀ x H', (Itl C.K (ρ1 n)).yld i H x H' → gE C.K tg x (wipe σ (own.map (·.2))) H' fun σ2 H2 => wipe σ2 (own.map (·.2)) = wipe σ (own.map (·.2)) ∧ TrT C.K W0 (cnd (sem gl F cond)) σ2 H2 fun b H3 =>
                  if b = true then TrE C.K W0 (sem gl F elt).e σ2 H3 fun y H4 => ∃ acc, H4 D = some (.lst acc) ∧ acc.length < sizeLine ∧ Nx (L2.upd H4 D (.lst (acc ++ [y]))) else Nx H3) := by
            intro v vs u e1 e2' rv h3
            subst e1
            refine ⟨⟨vs, u, .of f1, e2'⟩, fun H' => i + 1 + k = bigN ∧ ∃ ρ st acc accP xs s'', Stp ρ1 st1 H1 ρ st H' ∧ RelS C.K (fun a => O a ∨ a = D) ρ H' st ∧ RelE C.K (fun a => O a ∨ a = D) ρ (wipe σ (own.map (·.2))) H' (wipeE e (own.map (·.2))) st ∧ H' D = some (.lst acc) ∧ acc.length ≤ i + 1 ∧ ReqP C.K (Mt (fun a => O a ∨ a = D) ρ st) H' accP acc ∧
                cpR (sem gl F tg).k (cnd (sem gl F cond)) (sem gl F elt).e n (wipeE e (own.map (·.2))) k (i + 1) st = .ok xs s'' ∧ End C.K W O (RpV C.K O) ρ1 st1 H1 (mkLst m (accP ++ xs) s'') Q, fun H' q => ⟨k, Nat.lt_succ_self _, q⟩, fun x H' ⟨y1, y2⟩ => ?_⟩
            subst y1
            have := y2 vs (.of f1)
            rw [e2'] at this
            cases this
            exact cp_turn hn (fun _ _ _ => trivial) t2 S2 Sf E2 (.inr rfl) hD hD2 (by omega) ra rv h3
              fun ρ3 st3 H3 acc3 accP3 ys v1 _ v2 v3 v4 v5 v6 v7 v8 => ⟨by omega, ρ3, st3, acc3, accP3, ys, s'', v1, v2, v3, v4, by omega, v6, v7, by rw [v8]; exact hq⟩
          have ends : ∀ (vs : List V), w = .lst vs → vs[i]? = none → (.ok [] st2 : Mi.R (List P)) = .ok xs s'' → ((Itl C.K (ρ1 n)).stop i H ∧ Q (.ref D) H) := by
            intro vs e1 e2' h3
            subst e1
            cases h3
            rw [List.append_nil] at hq
            exact ⟨⟨vs, .of f1, List.getElem?_eq_none_iff.mp e2'⟩, cp_end S1 hq hD t2 S2 hD2 ra⟩
          cases q : st2[n] with
          | lp z ys =>
            rw [q] at f2 hc2
            obtain ⟨vs, e1, r⟩ := f2
            dsimp only at hc2
            cases qx : ys[i]? with
            | some d =>
              rw [qx] at hc2
              obtain ⟨u, h3, h4⟩ := r.get qx
              exact .inr (step (.p d) vs u e1 h3 h4 hc2)
            | none =>
              rw [qx] at hc2
              exact .inl (ends vs e1 (r.none_of qx) hc2)
          | lr ys =>
            rw [q] at f2 hc2
            obtain ⟨e1, r⟩ := f2
            dsimp only at hc2
            cases qx : ys[i]? with
            | some d =>
              rw [qx] at hc2
              exact .inr (step (.r d) _ _ e1 (by simp [qx]) ⟨r d (List.mem_of_getElem? qx), rfl⟩ hc2)
            | none =>
              rw [qx] at hc2
              exact .inl (ends _ e1 (by simp [qx]) hc2)
          | dp z kvs => rw [q] at hc2; cases hc2
          | no => rw [q] at f2; exact f2.elim⟩
theorem xCp {iter : Expr} {scope : Scope} {own : List (Str × Nat)} {pos : Pos} {m : Bool} {ifs : List Expr} (hc : C.calm = true) (hN : C.N.Nodup) (hi : PI C (toE tg) iter (TrI C.K W fi)) (ok : L2.BlkOk C.N C.env.scope scope own) (hn : nmT (own.map (·.2)) tg = true)
    (hg : ∀ (s : Shared) (H : Hp) (Cc : Addr) (cl : List (Str × Addr)) (fp : List Addr), PG (C.blk s H scope (compEnvC scope cl Cc C.env) fp) (toE tg) (gE C.K tg))
    (ht : ∀ (s : Shared) (H : Hp) (Cc : Addr) (cl : List (Str × Addr)) (fp : List Addr), L2.PTs (C.blk s H scope (compEnvC scope cl Cc C.env) fp) ifs (TrT C.K W0 (cnd (sem gl F cond))))
    (he : ∀ (s : Shared) (H : Hp) (Cc : Addr) (cl : List (Str × Addr)) (fp : List Addr), PE (C.blk s H scope (compEnvC scope cl Cc C.env) fp) (toE elt) (TrE C.K W0 (sem gl F elt).e)) (hs : ∀ x, foldedSetIterable iter C.env x = pure x) :
    PE C (.ListComp (toE elt) [⟨toE tg, iter, ifs, 0⟩] scope pos) (TrE C.K W fun e s => (fi e s).bd fun w s => (cpAll (sem gl F tg) (sem gl F cond) (sem gl F elt) (wipeE e (own.map (·.2))) w s).bd fun xs s => mkLst m xs s) :=
  imE (L2.pe_lc hc hN hi ok hg ht he hs) fun σ H Q h => cp_imp hn h
/-- a name, the new list on the same line -/
theorem sLc {iter : Expr} {scope : Scope} {own : List (Str × Nat)} {pos spos py : Pos} {m : Bool} {ifs : List Expr} {i : Nat} {y : Str} (hc : C.calm = true) (hN : C.N.Nodup) (hy : C.N[i]? = some y) (hyl : C.env.scope.names.lookup y = some .local)
    (hsw : swapsWith (.ListComp (toE elt) [⟨toE tg, iter, ifs, 0⟩] scope pos) (some (.Name y py)) spos.line C.env = pure true)
    (hi : PI C (toE tg) iter (TrI C.K W fi)) (ok : L2.BlkOk C.N C.env.scope scope own) (hn : nmT (own.map (·.2)) tg = true)
    (hg : ∀ (s : Shared) (H : Hp) (Cc : Addr) (cl : List (Str × Addr)) (fp : List Addr), PG (C.blk s H scope (compEnvC scope cl Cc C.env) fp) (toE tg) (gE C.K tg))
    (ht : ∀ (s : Shared) (H : Hp) (Cc : Addr) (cl : List (Str × Addr)) (fp : List Addr), L2.PTs (C.blk s H scope (compEnvC scope cl Cc C.env) fp) ifs (TrT C.K W0 (cnd (sem gl F cond))))
    (he : ∀ (s : Shared) (H : Hp) (Cc : Addr) (cl : List (Str × Addr)) (fp : List Addr), PE (C.blk s H scope (compEnvC scope cl Cc C.env) fp) (toE elt) (TrE C.K W0 (sem gl F elt).e)) (hs : ∀ x, foldedSetIterable iter C.env x = pure x) :
    PS C (.Assign [.Name y py] (.ListComp (toE elt) [⟨toE tg, iter, ifs, 0⟩] scope pos) spos) (TrS C.K W fun e s => ((fi e s).bd fun w s => (cpAll (sem gl F tg) (sem gl F cond) (sem gl F elt) (wipeE e (own.map (·.2))) w s).bd fun xs s => mkLst m xs s).bx fun v s => kV i v e s) :=
  imS (L2.ps_setLc hc hN hy hyl hsw hi ok hg ht he hs) fun D σ H ⟨O, ρ, e, st, R, h⟩ => cp_imp (m := m) hn ⟨O, ρ, e, st, R, End.bx R.S h fun x st1 ρ1 H1 v _ s1 S1 r1 h1 => h1 ρ1 _ H1 .rfl ⟨S1, (R.go s1 S1).E.set r1 i⟩⟩
end
end Mi
end
section
set_option Elab.async false
set_option linter.all false
set_option maxRecDepth 100000
set_option maxHeartbeats 1000000
/-! M15: the store at a call. -/
namespace Mi
open PySem
open L2 (V HO Hp upd upd_same upd_ne SqL SqT Rd Cx Inv PE PT PA PS PSs PG PGs PI TE TT TA TS TG TGs TI It VK XK Ends RelV Vals ne_of_none OpR R2 EP CallR UnR IxR SlR TruR Gl Vis Loc Itl Itt Itr wipe)
theorem refs_nd : ∀ (vs : List Vl), (refs vs).Nodup
  | [] => List.nodup_nil
  | .p _ :: r => refs_nd r
  | .r n :: r => by
    show (n :: (refs r).filter (· != n)).Nodup
    rw [List.nodup_cons]
    exact ⟨by simp, (refs_nd r).filter _⟩
theorem refs_sub (n : Nat) : ∀ (vs : List Vl), n ∈ refs vs ↔ Vl.r n ∈ vs
  | [] => by simp [refs]
  | .p _ :: r => by simp [refs, refs_sub n r]
  | .r k :: r => by
    show n ∈ k :: (refs r).filter (· != k) ↔ _
    simp only [List.mem_cons, List.mem_filter, bne_iff_ne, ne_eq, Vl.r.injEq, refs_sub n r]
    constructor
    · rintro (h | h)
      · exact .inl h
      · exact .inr h.1
    · rintro (h | h)
      · exact .inl h
      · by_cases q : n = k
        · exact .inl q
        · exact .inr ⟨h, q⟩
theorem back_len : ∀ (rs : List Nat) (l st : Sr), (back rs l st).length = st.length
  | [], _, _ => rfl
  | _ :: _, [], _ => rfl
  | n :: r, o :: os, st => by
    show (back r os (st.set n o)).length = _
    rw [back_len r os, List.length_set]
theorem back_out : ∀ (rs : List Nat) (l st : Sr) (n : Nat), n ∉ rs → (back rs l st)[n]? = st[n]?
  | [], _, _, _, _ => rfl
  | _ :: _, [], _, _, _ => rfl
  | m :: r, o :: os, st, n, h => by
    show (back r os (st.set m o))[n]? = _
    simp only [List.mem_cons, not_or] at h
    rw [back_out r os _ n h.2, List.getElem?_set_ne (Ne.symm h.1)]
theorem back_in : ∀ (rs : List Nat) (l st : Sr) (j n : Nat), rs.Nodup → rs.length ≤ l.length → rs[j]? = some n → n < st.length → (back rs l st)[n]? = l[j]?
  | [], _, _, _, _, _, _, h, _ => by simp at h
  | _ :: _, [], _, _, _, _, h, _, _ => by simp at h
  | m :: r, o :: os, st, 0, n, nd, hl, h, lt => by
    simp at h
    subst h
    show (back r os (st.set m o))[m]? = _
    rw [back_out r os _ m (List.nodup_cons.mp nd).1, List.getElem?_set_self lt]
    rfl
  | m :: r, o :: os, st, j + 1, n, nd, hl, h, lt => by
    show (back r os (st.set m o))[n]? = _
    rw [back_in r os _ j n (List.nodup_cons.mp nd).2 (by simpa using hl) (by simpa using h) (by simpa using lt)]
    simp
section
variable {K : Fg} {W : Str → Option Addr → Hp → Prop} {O : Addr → Prop} {ρ : Nat → Addr} {H : Hp} {st : Sr}
theorem Reps.lt : ∀ {vs : List Vl} {us : List V}, Reps K O ρ st H vs us → ∀ n, Vl.r n ∈ vs → n < st.length
  | _, _, .nil, n, h => by simp at h
  | _, _, .cons (x := x) h r, n, hm => by
    rcases List.mem_cons.mp hm with e | hm
    · subst e; exact h.1
    · exact r.lt n hm
/-- what a callee owns nothing of: the caller's own, the live things that are not handed in -/
def Oc (O : Addr → Prop) (ρ : Nat → Addr) (st : Sr) (rs : List Nat) : Addr → Prop := fun a => O a ∨ (live ρ st a ∧ ∀ n ∈ rs, ρ n ≠ a)
def rhoC (ρ : Nat → Addr) (rs : List Nat) : Nat → Addr := fun j => ρ (rs.getD j 0)
def locC (st : Sr) (rs : List Nat) : Sr := rs.map fun n => st.getD n .no
theorem loc_get {rs : List Nat} {j : Nat} {o : Ob} (hlt : ∀ n ∈ rs, n < st.length) (h : (locC st rs)[j]? = some o) : ∃ n, rs[j]? = some n ∧ n < st.length ∧ st[n]? = some o ∧ rhoC ρ rs j = ρ n := by
  unfold locC at h
  rw [List.getElem?_map] at h
  obtain ⟨n, h1, h2⟩ := Option.map_eq_some_iff.mp h
  have lt := hlt n (List.mem_of_getElem? h1)
  refine ⟨n, h1, lt, ?_, ?_⟩
  · rw [← h2]; simp [List.getD, lt]
  · unfold rhoC; simp [List.getD, h1]
theorem loc_live {rs : List Nat} (hlt : ∀ n ∈ rs, n < st.length) {a : Addr} (h : live (rhoC ρ rs) (locC st rs) a) : live ρ st a ∧ ∃ n ∈ rs, ρ n = a := by
  obtain ⟨j, o, h1, h2, h3⟩ := h
  obtain ⟨n, e1, e2, e3, e4⟩ := loc_get (ρ := ρ) hlt h1
  exact ⟨⟨n, o, e3, h2, e4 ▸ h3⟩, n, List.mem_of_getElem? e1, e4 ▸ h3⟩
theorem mt_c {rs : List Nat} (hlt : ∀ n ∈ rs, n < st.length) {a : Addr} (h : Mt (Oc O ρ st rs) (rhoC ρ rs) (locC st rs) a) : Mt O ρ st a := by
  rcases h with (h | h) | h
  · exact .inl h
  · exact .inr h.1
  · exact .inr (loc_live hlt h).1
theorem loc_rel (S : RelS K O ρ H st) {rs : List Nat} (nd : rs.Nodup) (hlt : ∀ n ∈ rs, n < st.length) (hp : (locC st rs).all plainOb = true) : RelS K (Oc O ρ st rs) (rhoC ρ rs) H (locC st rs) := by
  refine ⟨fun j o h => ?_, fun j k hj hk q => ?_, fun j hj q => ?_, fun a q => ?_⟩
  · obtain ⟨n, e1, e2, e3, e4⟩ := loc_get (ρ := ρ) hlt h
    obtain ⟨u, f1, f2⟩ := S.ob n o e3
    refine ⟨u, by rw [e4]; exact f1, ?_⟩
    have := List.all_eq_true.mp hp o (List.mem_of_getElem? h)
    cases o with
    | lp z xs => obtain ⟨vs, rfl, r⟩ := f2; exact ⟨vs, rfl, r.oth fun a _ q => mt_c hlt q⟩
    | lr ns => cases this
    | dp z kvs => obtain ⟨ks, q, r⟩ := f2; exact ⟨ks, q, r.map fun h => h.oth fun a _ q => mt_c hlt q⟩
    | no => exact f2.elim
  · have lj : j < rs.length := by simpa [locC] using hj
    have lk : k < rs.length := by simpa [locC] using hk
    have ej : rhoC ρ rs j = ρ rs[j] := by simp [rhoC, List.getD, lj]
    have ek : rhoC ρ rs k = ρ rs[k] := by simp [rhoC, List.getD, lk]
    rw [ej, ek] at q
    have := S.inj _ _ (hlt _ (List.getElem_mem lj)) (hlt _ (List.getElem_mem lk)) q
    exact (List.getElem_inj nd).mp this
  · have lj : j < rs.length := by simpa [locC] using hj
    have ej : rhoC ρ rs j = ρ rs[j] := by simp [rhoC, List.getD, lj]
    rw [ej] at q
    rcases q with q | q
    · exact S.out _ (hlt _ (List.getElem_mem lj)) q
    · exact q.2 _ (List.getElem_mem lj) rfl
  · rcases q with q | q
    · exact S.al a q
    · rcases live_lst S q.1 with ⟨vs, e⟩ | ⟨vs, e⟩ <;> (rw [e]; simp)
theorem loc_args (S : RelS K O ρ H st) {rs : List Nat} (hlt : ∀ n ∈ rs, n < st.length) : ∀ {args : List Vl} {vs : List V}, Reps K O ρ st H args vs → (∀ n, Vl.r n ∈ args → n ∈ rs) → Reps K (Oc O ρ st rs) (rhoC ρ rs) (locC st rs) H (inArgs rs args) vs
  | _, _, .nil, _ => .nil
  | _, _, .cons (x := x) h r, hm => by
    have ih := loc_args S hlt r fun n hn => hm n (List.mem_cons_of_mem _ hn)
    cases x with
    | p d => exact .cons (RepP.oth (fun a _ q => mt_c hlt q) h) ih
    | r n =>
      have hn := hm n List.mem_cons_self
      have li : rs.idxOf n < rs.length := List.idxOf_lt_length_of_mem hn
      refine .cons ⟨by simpa [locC] using li, ?_⟩ ih
      rw [h.2]
      simp [rhoC, List.getD, li]
/-- behind a call: things at js (made by the callee) join the store -/
structure Bk (K : Fg) (O Ox : Addr → Prop) (ρ : Nat → Addr) (st : Sr) (H : Hp) (rs : List Nat) (ρ' : Nat → Addr) (l : Sr) (H' : Hp) : Prop where
  s : Stp ρ st H ρ (back rs l st) H'
  S : RelS K Ox ρ H' (back rs l st)
  mt : ∀ a, Mt Ox ρ (back rs l st) a → Mt (Oc O ρ st rs) ρ' l a
theorem back_ok {Ox : Addr → Prop} (S : RelS K O ρ H st) {rs : List Nat} (nd : rs.Nodup) (hlt : ∀ n ∈ rs, n < st.length) (hp : (locC st rs).all plainOb = true) {ρ' : Nat → Addr} {l : Sr} {H' : Hp} (s : Stp (rhoC ρ rs) (locC st rs) H ρ' l H') (S' : RelS K (Oc O ρ st rs) ρ' H' l)
    (wx : Wid O Ox H) (xl : ∀ a, Ox a → O a ∨ live ρ' l a) (xo : ∀ n, n < st.length → ¬ Ox (ρ n)) : Bk K O Ox ρ st H rs ρ' l H' := by
  have ll : rs.length ≤ l.length := by have := s.le; simpa [locC] using this
  have bin : ∀ {j n : Nat}, rs[j]? = some n → (back rs l st)[n]? = l[j]? := fun {j n} h => back_in rs l st j n nd ll h (hlt n (List.mem_of_getElem? h))
  have ag : ∀ {j n : Nat}, rs[j]? = some n → ρ' j = ρ n := fun {j n} h => by
    have lj := (List.getElem?_eq_some_iff.mp h).1
    rw [s.ag j (by simpa [locC] using lj)]
    simp [rhoC, List.getD, h]
  have ix : ∀ {n : Nat}, n ∈ rs → ∃ j, rs[j]? = some n := fun {n} h => by
    obtain ⟨j, hj, e⟩ := List.getElem_of_mem h
    exact ⟨j, by rw [List.getElem?_eq_getElem hj, e]⟩
  have nl : ∀ {n : Nat}, n < st.length → n ∉ rs → ¬ live (rhoC ρ rs) (locC st rs) (ρ n) := fun {n} hn hm q => by
    obtain ⟨_, k, hk, e⟩ := loc_live hlt q
    exact hm (S.inj k n (hlt k hk) hn e ▸ hk)
  have lp : ∀ {j n : Nat}, rs[j]? = some n → (∃ z xs, st[n]? = some (.lp z xs) ∧ ∃ z' xs', l[j]? = some (.lp z' xs')) ∨ ∃ z xs, st[n]? = some (.dp z xs) ∧ ∃ z' xs', l[j]? = some (.dp z' xs') := fun {j n} h => by
    have lt := hlt n (List.mem_of_getElem? h)
    have e : (locC st rs)[j]? = some st[n] := by simp [locC, h, List.getD, lt]
    have := List.all_eq_true.mp hp _ (List.mem_of_getElem? e)
    obtain ⟨u, _, f2⟩ := S.ob n st[n] (by simp [lt])
    cases q : st[n] with
    | lp z xs =>
      rw [q] at e
      exact .inl ⟨z, xs, by rw [← q]; simp [lt], s.lp j z xs e⟩
    | lr ns => rw [q] at this; cases this
    | dp z kvs =>
      rw [q] at e
      exact .inr ⟨z, kvs, by rw [← q]; simp [lt], s.dp j z kvs e⟩
    | no => rw [q] at f2; exact f2.elim
  have lv : ∀ a, live ρ (back rs l st) a → live ρ' l a ∨ (live ρ st a ∧ ∀ k ∈ rs, ρ k ≠ a) := fun a ⟨n, o, h1, h2, h3⟩ => by
    have lt : n < st.length := by
      have := (List.getElem?_eq_some_iff.mp h1).1
      rwa [back_len] at this
    by_cases hm : n ∈ rs
    · obtain ⟨j, hj⟩ := ix hm
      rw [bin hj] at h1
      exact .inl ⟨j, o, h1, h2, (ag hj).trans h3⟩
    · rw [back_out rs l st n hm] at h1
      exact .inr ⟨⟨n, o, h1, h2, h3⟩, fun k hk z => hm (S.inj k n (hlt k hk) lt (z.trans h3.symm) ▸ hk)⟩
  have mt : ∀ a, Mt Ox ρ (back rs l st) a → Mt (Oc O ρ st rs) ρ' l a := fun a q => by
    rcases q with q | q
    · exact (xl a q).elim (fun q => .inl (.inl q)) .inr
    · rcases lv a q with q | q
      · exact .inr q
      · exact .inl (.inr q)
  have stp : Stp ρ st H ρ (back rs l st) H' := by
    refine ⟨by rw [back_len]; exact Nat.le_refl _, fun _ _ => rfl, fun a q => ?_, fun a o e n t => s.kp a o e (fun q => n (loc_live hlt q).1) t, fun n ns e => ⟨ns, ?_⟩, s.tb, fun n z xs e => ?_, fun n z xs e => ?_⟩
    · rcases lv a q with q | q
      · rcases s.lv a q with q | q
        · exact .inl (loc_live hlt q).1
        · exact .inr q
      · exact .inl q.1
    · rw [back_out rs l st n fun hm => ?_]
      · exact e
      · obtain ⟨j, hj⟩ := ix hm
        rcases lp hj with ⟨z, xs, q, _⟩ | ⟨z, xs, q, _⟩ <;> (rw [e] at q; cases q)
    · by_cases hm : n ∈ rs
      · obtain ⟨j, hj⟩ := ix hm
        rcases lp hj with ⟨_, _, _, z', xs', q⟩ | ⟨_, _, q, _⟩
        · exact ⟨z', xs', by rw [bin hj]; exact q⟩
        · rw [e] at q; cases q
      · exact ⟨z, xs, by rw [back_out rs l st n hm]; exact e⟩
    · by_cases hm : n ∈ rs
      · obtain ⟨j, hj⟩ := ix hm
        rcases lp hj with ⟨_, _, q, _⟩ | ⟨_, _, _, z', xs', q⟩
        · rw [e] at q; cases q
        · exact ⟨z', xs', by rw [bin hj]; exact q⟩
      · exact ⟨z, xs, by rw [back_out rs l st n hm]; exact e⟩
  refine ⟨stp, ⟨fun n o e => ?_, fun n k hn hk => S.inj n k (by rwa [back_len] at hn) (by rwa [back_len] at hk), fun n hn => xo n (by rwa [back_len] at hn), fun a q => ?_⟩, mt⟩
  rotate_left
  · rcases xl a q with q | ⟨n, o, q1, _, rfl⟩
    · exact S'.al a (.inl q)
    · obtain ⟨u, f1, _⟩ := S'.ob n o q1
      rw [f1]; simp
  have lt : n < st.length := by
    have := (List.getElem?_eq_some_iff.mp e).1
    rwa [back_len] at this
  by_cases hm : n ∈ rs
  · obtain ⟨j, hj⟩ := ix hm
    rw [bin hj] at e
    obtain ⟨u, f1, f2⟩ := S'.ob j o e
    refine ⟨u, by rw [← ag hj]; exact f1, ?_⟩
    rcases lp hj with ⟨_, _, _, z', xs', q⟩ | ⟨_, _, _, z', xs', q⟩
    · rw [e] at q
      cases q
      obtain ⟨vs, rfl, r⟩ := f2
      exact ⟨vs, rfl, r.oth fun a _ q => mt a q⟩
    · rw [e] at q
      cases q
      obtain ⟨ks, q, r⟩ := f2
      exact ⟨ks, q, r.map fun h => h.oth fun a _ q => mt a q⟩
  · rw [back_out rs l st n hm] at e
    obtain ⟨u, f1, f2⟩ := S.ob n o e
    have kept : H' (ρ n) = some u := s.kp _ _ f1 (nl lt hm) fun ps z => by
      subst z
      cases o with
      | lp z xs => obtain ⟨vs, q, _⟩ := f2; cases q
      | lr ns => cases f2.1
      | dp z kvs => obtain ⟨ks, ⟨_, q⟩ | ⟨_, o, q⟩, _⟩ := f2 <;> cases q
      | no => exact f2
    refine ⟨u, kept, ?_⟩
    cases o with
    | lp z xs => obtain ⟨vs, rfl, r⟩ := f2; exact ⟨vs, rfl, r.go S wx stp⟩
    | lr ns => exact ⟨f2.1, fun n hn => by rw [back_len]; exact f2.2 n hn⟩
    | dp z kvs => obtain ⟨ks, q, r⟩ := f2; exact ⟨ks, q, r.map fun h => h.go S wx stp⟩
    | no => exact f2.elim
/-- a call, from the caller's side to the callee's -/
theorem callW_ok {F : List Vl → Sr → R Vl} {m : Bool} {args : List Vl} {vs : List V} {Q : VK} (S : RelS K O ρ H st) (ra : Reps K O ρ st H args vs) (h : End K W O (RpV K O) ρ st H (callW F m args st) Q) :
    ∃ (O2 : Addr → Prop) (ρ2 : Nat → Addr) (as : List Vl) (l : Sr), RelS K O2 ρ2 H l ∧ Reps K O2 ρ2 l H as vs ∧ F as l ≠ .no ∧ End K W O2 (RpV K O2) ρ2 l H (F as l) Q := by
  have nd := refs_nd args
  have hlt : ∀ n ∈ refs args, n < st.length := fun n hn => ra.lt n ((refs_sub n args).mp hn)
  unfold callW at h
  dsimp only at h
  split at h
  · rename_i hp
    have hp' : (locC st (refs args)).all plainOb = true := hp
    refine ⟨Oc O ρ st (refs args), rhoC ρ (refs args), inArgs (refs args) args, locC st (refs args), loc_rel S nd hlt hp', loc_args S hlt ra fun n hn => (refs_sub n args).mpr hn, ?_⟩
    have h' : End K W O (RpV K O) ρ st H (match F (inArgs (refs args) args) (locC st (refs args)) with
      | .ok (.p x) l => .ok (.p x) (back (refs args) l st)
      | .ok (.r j) l => match l[j]? with
        | some (.lp z xs) =>
          if j < (refs args).length then .ok (.r ((refs args).getD j 0)) (back (refs args) l st)
          else if m then (if z = 0 then .ok (.r st.length) (back (refs args) l st ++ [.lp 0 xs]) else .no) else .ok (.p (.list xs)) (back (refs args) l st)
        | some (.dp z xs) =>
          if j < (refs args).length then .ok (.r ((refs args).getD j 0)) (back (refs args) l st)
          else if z = 0 then .ok (.r st.length) (back (refs args) l st ++ [.dp 0 xs]) else .no
        | _ => .no
      | .ex c x l => .ex c x (back (refs args) l st)
      | .no => .no) Q := h
    cases q : F (inArgs (refs args) args) (locC st (refs args)) with
    | no => rw [q] at h'; exact h'.elim
    | ex c x l =>
      rw [q] at h'
      refine ⟨by simp, fun ρ' H' d s' S' hx => ?_⟩
      have B := back_ok S nd hlt hp' s' S' .rfl (fun _ q => .inl q) S.out
      obtain ⟨ec, v, fs, e1, e2, e3⟩ := hx
      exact h' ρ H' d B.s B.S ⟨ec, v, fs, e1, e2, e3.oth fun a _ q => B.mt a q⟩
    | ok v l =>
      rw [q] at h'
      refine ⟨by simp, fun ρ' H' b s' S' hr => ?_⟩
      have B := back_ok S nd hlt hp' s' S' .rfl (fun _ q => .inl q) S.out
      cases v with
      | p x => exact h' ρ H' b B.s B.S (RepP.oth (fun a _ q => B.mt a q) hr)
      | r j =>
        obtain ⟨hj, rfl⟩ := hr
        have ag : ∀ {j : Nat}, j < (refs args).length → ρ' j = ρ ((refs args).getD j 0) := fun {j} lj => s'.ag j (by simpa [locC] using lj)
        have ej : l[j]? = some l[j] := by simp [hj]
        dsimp only at h'
        rw [ej] at h'
        obtain ⟨u, f1, f2⟩ := S'.ob j l[j] ej
        cases ql : l[j] with
        | lp z xs =>
          rw [ql] at h' f2
          obtain ⟨ws, rfl, rr⟩ := f2
          dsimp only at h'
          by_cases lj : j < (refs args).length
          · rw [if_pos lj] at h'
            refine h' ρ H' _ B.s B.S ⟨?_, by rw [ag lj]⟩
            rw [back_len]
            exact hlt _ (by simp [List.getD, lj])
          · rw [if_neg lj] at h'
            have oj : ¬ Oc O ρ st (refs args) (ρ' j) := S'.out j hj
            have nliv : ¬ live ρ (back (refs args) l st) (ρ' j) := fun ⟨n, o, q1, q2, q3⟩ => by
              have lt : n < st.length := by
                have := (List.getElem?_eq_some_iff.mp q1).1
                rwa [back_len] at this
              by_cases hm : n ∈ refs args
              · obtain ⟨k, hk, e⟩ := List.getElem_of_mem hm
                have := ag hk
                rw [show (refs args).getD k 0 = n by simp [List.getD, hk, e], q3] at this
                have hkl : k < l.length := Nat.lt_of_lt_of_le hk (by have := s'.le; simpa [locC] using this)
                have := S'.inj k j hkl hj this
                omega
              · rw [back_out _ _ _ _ hm] at q1
                exact oj (.inr ⟨⟨n, o, q1, q2, q3⟩, fun k hk z => hm (S.inj k n (hlt k hk) lt (z.trans q3.symm) ▸ hk)⟩)
            have nO : ¬ O (ρ' j) := fun z => oj (.inl z)
            cases m with
            | false =>
              exact h' ρ H' _ B.s B.S (RepP.lst (.inl ⟨.inl f1, fun q => q.elim nO nliv⟩) (rr.oth fun a _ q => B.mt a q))
            | true =>
              simp only [if_true] at h'
              by_cases hz : z = 0
              · subst hz
                rw [if_pos rfl] at h'
                have lvj : live ρ' l (ρ' j) := ⟨j, _, ej, by rw [ql]; rfl, rfl⟩
                have hpn : H (ρ' j) = none := by
                  rcases s'.lv _ lvj with q | q
                  · obtain ⟨_, n, hn, e⟩ := loc_live hlt q
                    obtain ⟨k, hk, e2⟩ := List.getElem_of_mem hn
                    have := ag hk
                    rw [show (refs args).getD k 0 = n by simp [List.getD, hk, e2], e] at this
                    have hkl : k < l.length := Nat.lt_of_lt_of_le hk (by have := s'.le; simpa [locC] using this)
                    have := S'.inj k j hkl hj this
                    omega
                  · exact q
                have B2 := back_ok (Ox := fun a => O a ∨ a = ρ' j) S nd hlt hp' s' S' (fun a q => q.elim .inl fun q => .inr (q ▸ hpn)) (fun a q => q.elim .inl fun q => .inr (q ▸ lvj)) fun n lt q => q.elim (S.out n lt) fun q => by
                  obtain ⟨u, f1, _⟩ := S.ob n st[n] (by simp [lt])
                  rw [q, hpn] at f1; cases f1
                have A := adopt B2.S (O := O) (fun _ q => .inl q) (fun _ q => q) (.inr rfl) nO f1 (rr.oth fun a _ q => B2.mt a q)
                have As := Stp.adopt (o := Ob.lp 0 xs) B.s hpn
                rw [back_len] at A As
                exact h' _ H' _ As A ⟨by simp [back_len], by rw [ext_same]⟩
              · rw [if_neg hz] at h'; exact h'.elim
        | lr ns => rw [ql] at h'; exact h'.elim
        | dp z kvs =>
          rw [ql] at h' f2
          dsimp only at h'
          by_cases lj : j < (refs args).length
          · rw [if_pos lj] at h'
            refine h' ρ H' _ B.s B.S ⟨?_, by rw [ag lj]⟩
            rw [back_len]
            exact hlt _ (by simp [List.getD, lj])
          · rw [if_neg lj] at h'
            by_cases hz : z = 0
            · subst hz
              rw [if_pos rfl] at h'
              obtain ⟨ks, ⟨_, e3⟩ | ⟨nz, _⟩, rr⟩ := f2
              · subst e3
                have oj : ¬ Oc O ρ st (refs args) (ρ' j) := S'.out j hj
                have nO : ¬ O (ρ' j) := fun z => oj (.inl z)
                have lvj : live ρ' l (ρ' j) := ⟨j, _, ej, by rw [ql]; rfl, rfl⟩
                have hpn : H (ρ' j) = none := by
                  rcases s'.lv _ lvj with q | q
                  · obtain ⟨_, n, hn, e⟩ := loc_live hlt q
                    obtain ⟨k, hk, e2⟩ := List.getElem_of_mem hn
                    have := ag hk
                    rw [show (refs args).getD k 0 = n by simp [List.getD, hk, e2], e] at this
                    have hkl : k < l.length := Nat.lt_of_lt_of_le hk (by have := s'.le; simpa [locC] using this)
                    have := S'.inj k j hkl hj this
                    omega
                  · exact q
                have B2 := back_ok (Ox := fun a => O a ∨ a = ρ' j) S nd hlt hp' s' S' (fun a q => q.elim .inl fun q => .inr (q ▸ hpn)) (fun a q => q.elim .inl fun q => .inr (q ▸ lvj)) fun n lt q => q.elim (S.out n lt) fun q => by
                  obtain ⟨u, f1, _⟩ := S.ob n st[n] (by simp [lt])
                  rw [q, hpn] at f1; cases f1
                have A := adoptD B2.S (O := O) (fun _ q => .inl q) (fun _ q => q) (.inr rfl) nO f1 (rr.map fun h => h.oth fun a _ q => B2.mt a q)
                have As := Stp.adopt (o := Ob.dp 0 kvs) B.s hpn
                rw [back_len] at A As
                exact h' _ H' _ As A ⟨by simp [back_len], by rw [ext_same]⟩
              · exact absurd rfl nz
            · rw [if_neg hz] at h'; exact h'.elim
        | no => rw [ql] at f2; exact f2.elim
  · exact h.elim
end
end Mi
end
section
set_option Elab.async false
set_option linter.all false
set_option maxRecDepth 100000
set_option maxHeartbeats 1000000
/-! M16: defs of the module, the context of code. -/
namespace Mi
open PySem PySem.Spec PyProof.Rows
open L2 (V HO Hp upd upd_same upd_ne SqL SqT Rd Cx Inv PE PT PA PS PSs PG PGs PI TE TT TA TS TG TGs TI It VK XK Ends RelV Vals ne_of_none OpR R2 EP CallR UnR IxR SlR TruR Gl Vis Loc Itl Itt Itr wipe Room Env0 CR CE CXT)
/-- the wish about exceptions, by the number of the class -/
abbrev WE (cl : Str → Value) (E : XK) : Str → Option Addr → Hp → Prop := fun c d H => E (cl c) d H
/-- what a def promises: it does what g says -/
structure FnG (cl : Str → Value) (Pr : Program) (w : World) (K : Fg) (mg : Str → Option Value) (base : Heap) (k : Nat) (f : Addr) (fd : FuncData) (ps : List Str) (g : List Vl → Sr → R Vl) : Prop where
  run : ∀ (A : Around) (outer : List Env) (s : Shared) (H : Hp) (args : Args) (us : List Value) (vs : List V) (Q : VK) (E : XK) (O : Addr → Prop) (ρ : Nat → Addr) (as : List Vl) (st : Sr), Room k A → A.guards = some [] → Env0 Pr w K mg base A outer s H → BindsTo s fd args (ps.zip us) → Vals vs us →
    RelS K O ρ H st → Reps K O ρ st H as vs → End K (WE cl E) O (RpV K O) ρ st H (g as st) Q → codeAny (model Pr w) A (.call (.ref f) args) (CR (L2.CX Pr w) outer Pr w H s Q E) s
section
variable {C : Cx} {cl : Str → Value} {E : XK} {k : Nat} {f : Addr} {fd : FuncData} {ps : List Str} {g : List Vl → Sr → R Vl} {es : List Expr} {fs : En → Sr → R (List Vl)} {pos p : Pos} {x : Str}
theorem run_g {pins : List (Addr × Obj)} {σ : Sg} {H : Hp} {s : Shared} {Q : VK} {us : List Value} {vs : List V} {O : Addr → Prop} {ρ : Nat → Addr} {as : List Vl} {st : Sr} (Fg : FnG cl C.prog C.w C.K C.mg C.base k f fd ps g) (hr : Room k C.A) (hgu : C.A.guards = some []) (hb : L2.Binds C.K fd ps []) (tk : L2.Takes C fun cls d _ H => E cls d H)
    (hl : ∀ as st, g as st ≠ .no → as.length = ps.length) (I : Inv C pins σ H s) (r : Vals vs us) (S : RelS C.K O ρ H st) (ra : Reps C.K O ρ st H as vs) (hn : g as st ≠ .no) (h : End C.K (WE cl E) O (RpV C.K O) ρ st H (g as st) Q) :
    wpAny (model C.prog C.w) C.A (call (.ref f) us) (EP C pins σ Q) C.xe s := by
  have hlen : (us ++ ([] : List Value)).length = ps.length := by rw [List.append_nil, ← r.length, ← ra.len]; exact hl as st hn
  have b := hb s us I.kIn hlen
  rw [List.append_nil] at b
  refine wpAny_call (codeAny_mono (Fg.run C.A C.stack s H ⟨us, []⟩ us vs Q E O ρ as st hr hgu I.env0 b r S ra h) fun r s' hq => ?_)
  cases r with
  | error e => exact L2.passes_call tk (fun _ _ _ _ q => q) pins σ H s e s' I hq
  | ok fl =>
    cases fl with
    | ret u => exact I.after hq
    | next => exact hq.elim
    | brk => exact hq.elim
    | cont => exact hq.elim
/-- what a call is read as -/
theorem cal_run {m : Bool} {pins : List (Addr × Obj)} {σ : Sg} {H : Hp} {s : Shared} {Q : VK} {us : List Value} {vs : List V} {O : Addr → Prop} {ρ : Nat → Addr} {as : List Vl} {st : Sr} (Fg : FnG cl C.prog C.w C.K C.mg C.base k f fd ps g) (hr : Room k C.A) (hgu : C.A.guards = some []) (hb : L2.Binds C.K fd ps []) (tk : L2.Takes C fun cls d _ H => E cls d H)
    (hl : ∀ as st, g as st ≠ .no → as.length = ps.length) (I : Inv C pins σ H s) (r : Vals vs us) (S : RelS C.K O ρ H st) (ra : Reps C.K O ρ st H as vs) (h : End C.K (WE cl E) O (RpV C.K O) ρ st H (callW g m as st) Q) :
    wpAny (model C.prog C.w) C.A (call (.ref f) us) (EP C pins σ Q) C.xe s := by
  obtain ⟨O2, ρ2, as2, l, S2, ra2, hn, h2⟩ := callW_ok S ra h
  exact run_g Fg hr hgu hb tk hl I r S2 ra2 hn h2
theorem xCal {m : Bool} {T0 T1 : T} (Fg : FnG cl C.prog C.w C.K C.mg C.base k f fd ps g) (hr : Room k C.A) (hgu : C.A.guards = some []) (hb : L2.Binds C.K fd ps []) (tk : L2.Takes C fun cls d _ H => E cls d H)
    (hl : ∀ as st, g as st ≠ .no → as.length = ps.length) (hg : Gl C x) (hm : C.mg x = some (.ref f)) (hk : PySem.W.keepIn C.K (.ref f) = true) (hdb : (x == ("__debug__" : Str)) = false) (hs : ns T1 = true) (ha : PA C (toE T0 :: toEs T1) (TrA C.K (WE cl E) fs)) :
    PE C (.Call (.Name x p) (toE T0 :: toEs T1) [] pos) (TrE C.K (WE cl E) fun e s => (fs e s).bd fun vs s => callW g m vs s) := by
  refine ⟨fun pins s σ H Q I ⟨O, ρ, e, st, R, h⟩ => ?_⟩
  refine wpAny_Call_Name_kw (L2.ld_glob I hg hm ?_ hdb)
  refine PySem.W.callWith_K (h₀ := C.base) I.ok.mod.kin hk (L2.thn (ha.run pos pins s σ H (fun vs H1 => ∃ ρ1 st1 as, RelS C.K O ρ1 H1 st1 ∧ Reps C.K O ρ1 st1 H1 as vs ∧ End C.K (WE cl E) O (RpV C.K O) ρ1 st1 H1 (callW g m as st1) Q) I ⟨O, ρ, e, st, R, End.bd R.S h fun xs st1 ρ1 H1 vs _ s1 S1 r1 h1 => ⟨ρ1, st1, xs, S1, r1, h1⟩⟩) fun us s1 ⟨vs, H1, I1, r, ρ1, st1, as, S1, ra, h1⟩ => ⟨I1.kIn, ?_⟩) (star_cons _ _ _) (by rw [back_any]; exact ns_star _ hs _)
  exact cal_run Fg hr hgu hb tk hl I1 r S1 ra h1
theorem xCal0 {m : Bool} (Fg : FnG cl C.prog C.w C.K C.mg C.base k f fd ps g) (hr : Room k C.A) (hgu : C.A.guards = some []) (hb : L2.Binds C.K fd ps []) (tk : L2.Takes C fun cls d _ H => E cls d H)
    (hl : ∀ as st, g as st ≠ .no → as.length = ps.length) (hg : Gl C x) (hm : C.mg x = some (.ref f)) (hk : PySem.W.keepIn C.K (.ref f) = true) (hdb : (x == ("__debug__" : Str)) = false) (hf : ∀ e s, fs e s = .ok [] s) :
    PE C (.Call (.Name x p) [] [] pos) (TrE C.K (WE cl E) fun e s => (fs e s).bd fun vs s => callW g m vs s) := by
  refine ⟨fun pins s σ H Q I ⟨O, ρ, e, st, R, h⟩ => ?_⟩
  refine wpAny_Call_Name_kw (L2.ld_glob I hg hm ?_ hdb)
  dsimp only at h
  rw [hf] at h
  exact PySem.W.callWith_K0 I.kIn hk (cal_run (us := []) (vs := []) Fg hr hgu hb tk hl I .nil R.S .nil h)
end
/-- a def by its body -/
theorem fn_g {cl : Str → Value} {Pr : Program} {w : World} {K : Fg} {mg : Str → Option Value} {base : Heap} {k : Nat} {f : Addr} {name qual : Str} {params : Arguments} {body : List Stmt} {scope : Scope} {dV kV doc pm cdv ct oc : Value} {an od : Option Addr}
    {osl : Array (Option Value)} {N ps : List Str} {g : En → Sr → X} {mm : Nat} (lk : K.lookup f = some ⟨oc, od, .func (PySem.W.fnOf name qual params body scope dV kV doc pm an cdv ct), osl⟩) (hcd : PySem.W.codeIn K cdv qual = true) (S : L2.FnScope N ps scope) (hm : N.length = mm)
    (hbody : ∀ (A : Around) (outer : List Env) (s : Shared) (H : Hp) (E : XK), Room k (A.deeper (envOfC qual scope s.heap.objs.size f cdv)) → A.guards = some [] →
      PSs (L2.cxOf (L2.CX Pr w) Pr w K mg base N qual scope f cdv A outer s H E) body (TrS K (WE cl E) g)) :
    FnG cl Pr w K mg base (k + 1) f (PySem.W.fnOf name qual params body scope dV kV doc pm an cdv ct) ps (fun vs st => if vs.length = ps.length then endX (g (vs.map some ++ List.replicate (mm - ps.length) none) st) else .no) := by
  refine ⟨fun A outer s H args us vs Q E O ρ as st hr hgu e0 hb r RS ra h => ?_⟩
  split at h
  rotate_left
  · exact h.elim
  rename_i hlen
  have hl : vs.length = ps.length := by rw [← ra.len]; exact hlen
  have KX : K.In s.heap := e0.mod.kin.keeps fun b o e => (e0.bs b o e).1
  have lim : s.heap.NoLimit := e0.mod.nolimit.keeps fun b o e => (e0.bs b o e).1
  have hkind : ∀ y ∈ ps.zip us, scope.names.lookup y.1 = some .local ∨ (scope.names.lookup y.1 = some .cell ∧ ((cellsFrom (s.heap.objs.size + 1) scope.names []).lookup y.1).isSome = true) := fun ⟨n, v⟩ hy => by
    rcases S.par n (List.of_mem_zip hy).1 with q | q
    · exact .inl q
    · exact .inr ⟨q, PySem.W.cellsFrom_some _ _ _ (.inl q)⟩
  refine codeAny_call_function hr.depth (KX _ _ lk) rfl S.co S.gen rfl (PySem.W.codeRec_of KX hcd) (hb _ _ _ _ ?_)
  refine wpAny_newFunctionEnv_cells S.kind hkind fun env he s1 x => ?_
  subst he
  refine ⟨lim.keeps x.toInCall.keep, codeAny_func ?_⟩
  have I : Inv (L2.cxOf (L2.CX Pr w) Pr w K mg base N qual scope f cdv A outer s H E) [] (L2.start N vs) H s1 := L2.inv_start S hr.hd e0 hl r x
  have hE : RelE K O ρ (L2.start N vs) H (as.map some ++ List.replicate (mm - ps.length) none) st := by
    have lp : ps.length ≤ N.length := by have := congrArg List.length S.pre; rw [List.length_take] at this; omega
    refine ⟨by unfold L2.start; simp [hl, hlen, hm], fun i y hy => ?_⟩
    by_cases hi : i < as.length
    · rw [List.getElem?_append_left (by simpa using hi)] at hy
      have hv : ∀ {as : List Vl} {vs : List V}, Reps K O ρ st H as vs → ∀ (i : Nat) (y : Vl), as[i]? = some y → ∃ v, vs[i]? = some v ∧ Rep K O ρ st H y v := by
        intro as vs r
        induction r with
        | nil => intro i y h; simp at h
        | cons h _ ih =>
          intro i y hy
          cases i with
          | zero => simp at hy; subst hy; exact ⟨_, rfl, h⟩
          | succ i => exact ih i y (by simpa using hy)
      have hy' : as[i]? = some y := by
        rw [List.getElem?_map] at hy
        obtain ⟨z, h1, h2⟩ := Option.map_eq_some_iff.mp hy
        cases h2; exact h1
      obtain ⟨v, h1, h2⟩ := hv ra i y hy'
      refine ⟨v, ?_, h2⟩
      unfold L2.start
      rw [List.getElem?_append_left (by rw [List.length_map, ← ra.len]; exact hi), List.getElem?_map, h1]
      rfl
    · rw [List.getElem?_append_right (by simpa using hi), List.getElem?_replicate] at hy
      split at hy <;> cases hy
  have hq : TrS K (WE cl E) g { nx := fun _ H' => Q .non H', rt := Q } (L2.start N vs) H := by
    refine ⟨O, ρ, _, st, ⟨RS, hE⟩, ?_⟩
    cases q : g (as.map some ++ List.replicate (mm - ps.length) none) st with
    | nx e' s' => rw [q] at h; exact fun ρ' σ' H' t R' => h ρ' H' .non t R'.S .non
    | rt v s' => rw [q] at h; exact fun ρ' H' b t R' r => h ρ' H' b t R' r
    | bk e' s' => rw [q] at h; exact h.elim
    | ct e' s' => rw [q] at h; exact h.elim
    | ex c d s' => rw [q] at h; exact h
    | no => rw [q] at h; exact h.elim
  refine wpAny_mono ((hbody A outer s H E (hr.deeper _) hgu).run [] s1 (L2.start N vs) H _ I hq) (fun fl s' hs => ?_) fun e s' hs => hs
  have fin : ∀ {σ' : Sg} {H' : Hp} {v : V} {u : Value}, Inv (L2.cxOf (L2.CX Pr w) Pr w K mg base N qual scope f cdv A outer s H E) [] σ' H' s' → RelV v u → Q v H' → CE outer Pr w H s Q u s' :=
    fun {σ' H' v u} J rv q => ⟨v, H', J.os, J.bare, J.base, J.hok, rv, q⟩
  cases fl with
  | ret u =>
    obtain ⟨v, σ', H', J, rv, q⟩ := hs
    exact fin J rv q
  | next =>
    obtain ⟨σ', H', J, q⟩ := hs
    exact fin (v := V.non) (u := Value.none) J rfl q
  | brk =>
    obtain ⟨_, _, _, q⟩ := hs
    exact q.elim
  | cont =>
    obtain ⟨_, _, _, q⟩ := hs
    exact q.elim
end Mi
end
section
set_option Elab.async false
set_option linter.all false
set_option maxRecDepth 100000
set_option maxHeartbeats 1000000
/-! M17: chains, stars, assignments of tuples and of comprehensions. -/
namespace Mi
open PySem
open L2 (V HO Hp upd upd_same upd_ne SqL SqT Rd Cx Inv PE PT PA PS PSs PG PGs PI TE TT TA TS TG TGs TI It VK XK Ends RelV Vals ne_of_none OpR R2 EP CallR UnR IxR SlR TruR Gl Vis Loc Itl Itt Itr wipe)
section
variable {C : Cx} {W : Str → Option Addr → Hp → Prop} {a b c : Expr} {es : List Expr} {fa fb fc : En → Sr → R Vl} {fs : En → Sr → R (List Vl)} {pos : Pos}
theorem lnk_ok {O : Addr → Prop} {ρ : Nat → Addr} {st : Sr} {H : Hp} {o : CmpOp} {x y : Vl} {u v : V} {k : Bool} {Q : VK} (S : RelS C.K O ρ H st) (h : lnk o x y st = some k) (rx : Rep C.K O ρ st H x u) (ry : Rep C.K O ρ st H y v) (q : Q (.bl k) H) : rC C.K o u v H Q := by
  unfold lnk at h
  split at h
  · rename_i p q' e1 e2
    exact ⟨O, ρ, st, p, q', k, S, dd_rd S rx e1, dd_rd S ry e2, h, q⟩
  · cases h
theorem chain_imp {o q : CmpOp} {σ : Sg} {H : Hp} {Q : VK} (h : TrE C.K W (fun e s => (fa e s).bd fun x s => (fb e s).bd fun y s =>
    match lnk o x y s with
    | some true => (fc e s).bd fun w s => R.of ((blP (lnk q y w s)).map .p) s
    | some false => .ok (.p (.bool false)) s
    | none => .no) σ H Q) : L2.tChain (rC C.K o) (rC C.K q) (TrE C.K W fa) (TrE C.K W fb) (TrE C.K W fc) σ H Q := by
  obtain ⟨O, ρ, e, st, R, h⟩ := h
  refine ⟨O, ρ, e, st, R, End.bd R.S h fun x st1 ρ1 H1 u _ s1 S1 r1 h1 => ⟨O, ρ1, e, st1, R.go s1 S1, End.bd S1 h1 fun y st2 ρ2 H2 v _ s2 S2 r2 h2 => ?_⟩⟩
  cases q1 : lnk o x y st2 with
  | none => rw [q1] at h2; exact h2.elim
  | some k =>
    rw [q1] at h2
    refine lnk_ok S2 q1 (Rep.stp S1 s2 r1) r2 ⟨k, rfl, ?_⟩
    cases k with
    | false => exact h2.at S2 (RepP.bl _)
    | true =>
      refine ⟨O, ρ2, e, st2, (R.go s1 S1).go s2 S2, End.bd S2 h2 fun w st3 ρ3 H3 z _ s3 S3 r3 h3 => ?_⟩
      cases q2 : lnk q y w st3 with
      | none => rw [q2] at h3; exact h3.elim
      | some k2 =>
        rw [q2] at h3
        exact lnk_ok S3 q2 (Rep.stp S2 s3 r2) r3 (h3.at S3 (RepP.bl _))
theorem xCm2 (hu : C.A.units + 65 < cLine) {o q : CmpOp} (hm : lastMarks [o, q] [b, c] = false) (ha : PE C a (TrE C.K W fa)) (hb : PE C b (TrE C.K W fb)) (hc : PE C c (TrE C.K W fc)) :
    PE C (.Compare a [o, q] [b, c] pos) (TrE C.K W fun e s => (fa e s).bd fun x s => (fb e s).bd fun y s =>
      match lnk o x y s with
      | some true => (fc e s).bd fun w s => R.of ((blP (lnk q y w s)).map .p) s
      | some false => .ok (.p (.bool false)) s
      | none => .no) :=
  imE (L2.pe_chain (opCmp hu o) (opCmp hu q) ha hb hc hm) fun σ H Q h => chain_imp h
theorem tst_bool {O : Addr → Prop} {ρ : Nat → Addr} {st : Sr} {H : Hp} {m : R Vl} {Q : Bool → Hp → Prop} (hb : ∀ v s, m = .ok v s → ∃ k, v = .p (.bool k)) (h : End C.K W O RpB ρ st H (tst m) Q) : End C.K W O (RpV C.K O) ρ st H m fun x H' => ∃ k, x = .bl k ∧ Q k H' := by
  cases m with
  | ok v s =>
    obtain ⟨k, rfl⟩ := hb v s rfl
    exact fun ρ' H' b s' S' r => ⟨k, RepP.bl_inv r, h ρ' H' k s' S' rfl⟩
  | ex c x s => exact h
  | no => exact h
def allB (m : R Vl) : Prop := ∀ v s, m = .ok v s → ∃ k, v = .p (.bool k)
theorem allB_bd {α : Type} {m : R α} {g : α → Sr → R Vl} (h : ∀ x s, allB (g x s)) : allB (m.bd g) := by
  cases m with
  | ok a s => exact h a s
  | ex c x s => intro v s' q; cases q
  | no => intro v s' q; cases q
theorem allB_lnk {o q : CmpOp} {x y : Vl} {s : Sr} {m : R Vl} : allB (match lnk o x y s with
      | some true => m.bd fun w s => R.of ((blP (lnk q y w s)).map .p) s
      | some false => .ok (.p (.bool false)) s
      | none => .no) := by
  split
  · refine allB_bd fun w s => ?_
    cases q2 : lnk q y w s with
    | none => intro v s' q; cases q
    | some k => intro v s' q; cases q; exact ⟨k, rfl⟩
  · intro v s' q; cases q; exact ⟨false, rfl⟩
  · intro v s' q; cases q
theorem tCm2 (hu : C.A.units + 65 < cLine) {o q : CmpOp} (hm : lastMarks [o, q] [b, c] = false) (ha : PE C a (TrE C.K W fa)) (hb : PE C b (TrE C.K W fb)) (hc : PE C c (TrE C.K W fc)) :
    PT C (.Compare a [o, q] [b, c] pos) (TrT C.K W fun e s => tst ((fa e s).bd fun x s => (fb e s).bd fun y s =>
      match lnk o x y s with
      | some true => (fc e s).bd fun w s => R.of ((blP (lnk q y w s)).map .p) s
      | some false => .ok (.p (.bool false)) s
      | none => .no)) :=
  imT (L2.pt_chain (opCmp hu o) (opCmp hu q) ha hb hc hm) fun σ H Q ⟨O, ρ, e, st, R, h⟩ => chain_imp ⟨O, ρ, e, st, R, tst_bool (allB_bd fun x s => allB_bd fun y s => allB_lnk) h⟩
/-- [*a, ..] -/
theorem aStr {T0 : T} {p : Pos} (ha : PE C (toE T0) (TrE C.K W fa)) (hr : PA C es (TrA C.K W fs)) : PA C (.Starred (toE T0) p :: es) (TrA C.K W fun e s => (fa e s).bd fun v s => match (dd v s).bind seqP with
    | some xs => (fs e s).bd fun vs s => .ok (xs.map .p ++ vs) s
    | none => .no) :=
  imA (StX.pa_star ha hr rfl) fun σ H Q ⟨O, ρ, e, st, R, h⟩ => ⟨O, ρ, e, st, R, End.bd R.S h fun x st1 ρ1 H1 v _ s1 S1 r1 h1 => by
    cases q : dd x st1 with
    | none => rw [q] at h1; exact h1.elim
    | some d =>
      rw [q, Option.bind_some] at h1
      have rd := dd_rd S1 r1 q
      cases d with
      | list ds =>
        obtain ⟨a, vs, rfl, l, rr⟩ := rd.list
        refine ⟨a, vs, rfl, .inr l.sq, O, ρ1, e, st1, R.go s1 S1, End.bd S1 h1 fun y st2 ρ2 H2 u _ s2 S2 r2 h2 => h2.at S2 (Reps.app (ReqP.reps (rr.stp S1 s2)) r2)⟩
      | tuple ds =>
        obtain ⟨a, vs, rfl, l, rr⟩ := rd.tup
        refine ⟨a, vs, rfl, .inl l, O, ρ1, e, st1, R.go s1 S1, End.bd S1 h1 fun y st2 ρ2 H2 u _ s2 S2 r2 h2 => h2.at S2 (Reps.app (ReqP.reps (rr.stp S1 s2)) r2)⟩
      | _ => exact h1.elim⟩
end
end Mi
end
section
set_option Elab.async false
set_option linter.all false
set_option maxRecDepth 100000
set_option maxHeartbeats 1000000
/-! M18: the order of the stores of a tuple. -/
namespace Mi
open PySem
open L2 (V HO Hp upd upd_same upd_ne SqL SqT Rd Cx Inv PE PT PA PS PSs PG PGs PI TE TT TA TS TG TGs TI It VK XK Ends RelV Vals ne_of_none OpR R2 EP CallR UnR IxR SlR TruR Gl Vis Loc Itl Itt Itr wipe)
def isStar : Expr → Bool
  | .Starred .. => true
  | _ => false
/-- the names of the targets that are plain locals on the first one's line -/
def swNames (sc : Scope) (ts : List Expr) : List Str := ts.filterMap fun
    | .Name id pos => if sc.names.lookup id == some .local && pos.line == (ts.head?.map (·.pos.line)).getD 0 then some id else none
    | _ => none
def swNone (sc : Scope) (ts vs : List Expr) : Bool :=
  (!(ts.length == 2 || ts.length == 3) || vs.length != ts.length) || vs.any isStar ||
  ((swNames sc ts).length != ts.length || (swNames sc ts).eraseDups.length != (swNames sc ts).length) || vs.all (foldedForSure 8)
def swSome (sc : Scope) (ts vs : List Expr) : Bool :=
  !(!(ts.length == 2 || ts.length == 3) || vs.length != ts.length) && !vs.any isStar &&
  !((swNames sc ts).length != ts.length || (swNames sc ts).eraseDups.length != (swNames sc ts).length) && !vs.all (foldedForSure 8) && !vs.all (constantsAlone 8)
theorem sw_eq {env : Env} {ts vs : List Expr} {k k2 : Nat} {p p2 : Pos} (hk : env.scope.kind = .function) : swappedStores [.Tuple ts k p] (.Tuple vs k2 p2) env =
    if (!(ts.length == 2 || ts.length == 3) || vs.length != ts.length) = true then pure none else
    if vs.any isStar = true then pure none else
    if ((swNames env.scope ts).length != ts.length || (swNames env.scope ts).eraseDups.length != (swNames env.scope ts).length) = true then pure none else
    if vs.all (foldedForSure 8) = true then pure none else
    if vs.all (constantsAlone 8) = true then (do unsupported "assign.tuple-of-constant-expressions:order-of-the-stores"; pure (some (swNames env.scope ts))) else pure (some (swNames env.scope ts)) := by
  have hb : (env.blockKind != .function) = false := by unfold Env.blockKind; rw [hk]; rfl
  unfold swappedStores
  simp only [hb, Bool.or_false]
  rfl
theorem sw_none {env : Env} {ts vs : List Expr} {k k2 : Nat} {p p2 : Pos} (hk : env.scope.kind = .function) (h : swNone env.scope ts vs = true) : swappedStores [.Tuple ts k p] (.Tuple vs k2 p2) env = pure none := by
  rw [sw_eq hk]
  unfold swNone at h
  split
  · rfl
  · rename_i h1
    split
    · rfl
    · rename_i h2
      split
      · rfl
      · rename_i h3
        split
        · rfl
        · rename_i h4
          rw [Bool.not_eq_true] at h1 h2 h3 h4
          rw [h1, h2, h3, h4] at h
          cases h
theorem sw_some {env : Env} {ts vs : List Expr} {k k2 : Nat} {p p2 : Pos} (hk : env.scope.kind = .function) (h : swSome env.scope ts vs = true) : swappedStores [.Tuple ts k p] (.Tuple vs k2 p2) env = pure (some (swNames env.scope ts)) := by
  rw [sw_eq hk]
  unfold swSome at h
  simp only [Bool.and_eq_true, Bool.not_eq_true'] at h
  obtain ⟨⟨⟨⟨h1, h2⟩, h3⟩, h4⟩, h5⟩ := h
  rw [h1, h2, h3, h4, h5]
  rfl
section
variable {C : Cx} {W : Str → Option Addr → Hp → Prop} {a b c : Expr} {es : List Expr} {fa fb fc : En → Sr → R Vl} {fs : En → Sr → R (List Vl)} {pos : Pos}
theorem setset {K : Fg} {O : Addr → Prop} {ρ : Nat → Addr} {σ : Sg} {H : Hp} {e : En} {st : Sr} {i j : Nat} {x y : Vl} {u v : V} (E : RelE K O ρ σ H e st) (r : Rep K O ρ st H x u) (q : Rep K O ρ st H y v) : RelE K O ρ ((σ.set i (some u)).set j (some v)) H ((e.set i (some x)).set j (some y)) st := (E.set r i).set q j
theorem sPar2 {i j : Nat} {x y : Str} {px py pt : Pos} {kt k2 : Nat} {pt2 : Pos} (hc : C.calm = true) (hN : C.N.Nodup) (hi : C.N[i]? = some x) (hj : C.N[j]? = some y) (hij : i ≠ j)
    (hx : C.env.scope.names.lookup x = some .local) (hy : C.env.scope.names.lookup y = some .local) (ha : PA C [a, b] (TrA C.K W fs)) (hw : swappedStores [.Tuple [.Name x px, .Name y py] kt pt] (.Tuple [a, b] k2 pt2) C.env = pure (some [x, y])) {gl : List P} {F : Nat → List Vl → Sr → R Vl} :
    PS C (.Assign [.Tuple [.Name x px, .Name y py] kt pt] (.Tuple [a, b] k2 pt2) pos) (TrS C.K W fun e s => (fs e s).bx fun vs s => (sem gl F (.cons (.v i x px) (.cons (.v j y py) .nil))).ks vs e s) :=
  imS (L2.ps_par hc hN hi hj hij hx hy ha hw) fun D σ H ⟨O, ρ, e, st, R, h⟩ => ⟨O, ρ, e, st, R, End.bx R.S h fun xs st1 ρ1 H1 vs _ s1 S1 r1 h1 => by
    match xs, r1, h1 with
    | [], _, h1 => exact h1.elim
    | [_], _, h1 => exact h1.elim
    | _ :: _ :: _ :: _, _, h1 => exact h1.elim
    | [_, _], .cons r (.cons q .nil), h1 => exact ⟨_, _, rfl, h1 ρ1 _ H1 .rfl ⟨S1, setset (R.go s1 S1).E r q⟩⟩⟩
theorem sPar3 {i j l : Nat} {x y z : Str} {px py pz pt : Pos} {kt k2 : Nat} {pt2 : Pos} (hc : C.calm = true) (hN : C.N.Nodup) (hi : C.N[i]? = some x) (hj : C.N[j]? = some y) (hl : C.N[l]? = some z) (hij : i ≠ j) (hil : i ≠ l) (hjl : j ≠ l)
    (hx : C.env.scope.names.lookup x = some .local) (hy : C.env.scope.names.lookup y = some .local) (hz : C.env.scope.names.lookup z = some .local) (ha : PA C [a, b, c] (TrA C.K W fs)) (hw : swappedStores [.Tuple [.Name x px, .Name y py, .Name z pz] kt pt] (.Tuple [a, b, c] k2 pt2) C.env = pure (some [x, y, z])) {gl : List P} {F : Nat → List Vl → Sr → R Vl} :
    PS C (.Assign [.Tuple [.Name x px, .Name y py, .Name z pz] kt pt] (.Tuple [a, b, c] k2 pt2) pos) (TrS C.K W fun e s => (fs e s).bx fun vs s => (sem gl F (.cons (.v i x px) (.cons (.v j y py) (.cons (.v l z pz) .nil)))).ks vs e s) :=
  imS (L2.ps_par3 hc hN hi hj hl hij hil hjl hx hy hz ha hw) fun D σ H ⟨O, ρ, e, st, R, h⟩ => ⟨O, ρ, e, st, R, End.bx R.S h fun xs st1 ρ1 H1 vs _ s1 S1 r1 h1 => by
    match xs, r1, h1 with
    | [], _, h1 => exact h1.elim
    | [_], _, h1 => exact h1.elim
    | [_, _], _, h1 => exact h1.elim
    | _ :: _ :: _ :: _ :: _, _, h1 => exact h1.elim
    | [_, _, _], .cons r (.cons q (.cons t .nil)), h1 => exact ⟨_, _, _, rfl, h1 ρ1 _ H1 .rfl ⟨S1, ((setset (R.go s1 S1).E r q).set t l)⟩⟩⟩
/-- a result that only goes on -/
def onlyN (r : X) : Prop := (∀ e' s', r ≠ .bk e' s' ∧ r ≠ .ct e' s') ∧ ∀ w s', r ≠ .rt w s'
theorem EndS.toN {K : Fg} {O : Addr → Prop} {ρ : Nat → Addr} {st : Sr} {H : Hp} {r : X} {D : Ends} (h : EndS K W O ρ st H r D) (o : onlyN r) : EndS K W O ρ st H r { nx := D.nx, rt := fun _ _ => False } := by
  cases r with
  | nx e' s' => exact h
  | bk e' s' => exact absurd rfl (o.1 e' s').1
  | ct e' s' => exact absurd rfl (o.1 e' s').2
  | rt a s' => exact absurd rfl (o.2 a s')
  | ex c x s' => exact h
  | no => exact h
/-- a tuple of targets, a written tuple, stored from the left -/
theorem sPaG {ts vs : List Expr} {kt k2 n : Nat} {pt pt2 : Pos} {fks : List Vl → En → Sr → X} (hc : C.calm = true) (ha : PA C vs (TrA C.K W fs)) (hg : PGs C ts (TrGs C.K W fks)) (hn : (assignEach ts C.env).length = n) (hst : (assignEach ts C.env).findIdx? (·.1) = none)
    (hw : swappedStores [.Tuple ts kt pt] (.Tuple vs k2 pt2) C.env = pure none) (hl : ∀ e s xs s', fs e s = .ok xs s' → xs.length = n) (hz : n ≤ 1000) (hk : ∀ vs e s, onlyN (fks vs e s)) :
    PS C (.Assign [.Tuple ts kt pt] (.Tuple vs k2 pt2) pos) (TrS C.K W fun e s => (fs e s).bx fun vs s => fks vs e s) :=
  imS (L2.ps_asg (L2.pe_tup ha) (L2.pg_tup hc hg hn hst) rfl hw rfl) fun D σ H ⟨O, ρ, e, st, R, h⟩ => ⟨O, ρ, e, st, R, End.bx R.S h fun xs st1 ρ1 H1 vs q s1 S1 r1 h1 => by
    have l1 := hl _ _ _ _ q
    have l2 : xs.length = vs.length := Reps.len r1
    refine ⟨lim_line (by unfold lim; omega), fun p hp => ⟨p, vs, rfl, .of upd_same, by omega, O, ρ1, e, st1, xs, (R.go s1 S1).go (Stp.new S1 hp) (S1.new hp), Reps.stp S1 (Stp.new S1 hp) r1, ?_⟩⟩
    exact EndS.toN (EndS.later h1 S1 (S1.new hp) (Stp.new S1 hp)) (hk _ _ _)⟩
end
end Mi
end
section
set_option Elab.async false
set_option linter.all false
set_option maxRecDepth 100000
set_option maxHeartbeats 2000000
/-! X1: the errors' own __init__: super().__init__(value); self.value = value. -/
namespace Mi
open PySem
open L2 (V HO Hp upd upd_same upd_ne Cx Inv PE PT PA PS PSs TE TT TA TS VK XK RelV RelO Vals Room Env0 Un HOk ObjOk Mod CE CR FnOk OexC exo frs ne_of_none)
/-- an exception object at a, of the class at C, its dict, its args -/
def exq (a C : Addr) (d : Option Addr) (t1 : Addr) : HO := .ext fun h => h.get? a = some ({ cls := .ref C, dict := d, data := .fields #[.ref t1, .none, .none, .none, .bool false, .none] } : Obj)
theorem meth_he {o : Expr} {name v : Str} {p3 p4 p5 : Pos} {env : Env} (h : (p3.endLine == p5.line) = true) : eval (.Call (.Attribute o name p3) [.Name v p4] [] p5) env = (do
      let ov ← attributeBase o name env (eval o env)
      standAt p3.atName
      let (f, first) ← holding [ov] (getMethod ov name (do return (← importBound o env).getD true))
      callWith p5 f first (backTo p5 (starEach [.Name v p4] env)) []) := by
  show (do let ov ← attributeBase o name env (eval o env); standAt p3.atName; methodCall o name p3 p5 env ov 1 (backTo p5 (starEach [.Name v p4] env)) []) = _
  have e : ∀ ov, methodCall o name p3 p5 env ov 1 (backTo p5 (starEach [.Name v p4] env)) [] = (do let (f, first) ← holding [ov] (getMethod ov name (do return (← importBound o env).getD true)); callWith p5 f first (backTo p5 (starEach [.Name v p4] env)) []) := fun ov => by
    unfold methodCall methodCallPos calleeOf
    rw [show methodCallForm 1 (backTo p5 (starEach [.Name v p4] env)) [] = true from rfl]
    simp only [h, Bool.not_true, Bool.or_true, if_true, pure_bind]
  simp only [e]
abbrev iniNs : List (Str × NameKind) := [("self", .local), ("value", .local), ("__class__", .free), ("super", .globalImplicit)]
/-- the errors' own __init__ as a function's data -/
abbrev iniD (nm qu : Str) (pa : Arguments) (p1 p2 p3 p4 p5 p6 p7 p8 p9 q : Pos) (more : List (Str × Const)) (kc : Addr) (dV kV doc pm : Value) (an : Option Addr) (cd ct : Value) : FuncData :=
  { name := nm, qualname := qu, params := pa, body := .stmts [.Expr (.Call (.Attribute (.Call (.Name "super" p1) [] [] p2) "__init__" p3) [.Name "value" p4] [] p5) p6, .Assign [.Attribute (.Name "self" p7) "value" p8] (.Name "value" p9) q],
    scope := { kind := .function, names := iniNs, isGenerator := false, isCoroutine := false, more := more },
    globals := mainGlobals, closure := [("__class__", kc)], defaults := dV, kwdefaults := kV, doc := doc, pyModule := pm, annotations := an, code := cd, closureTuple := ct, builtins := builtinsNs }
/-- .. as the written part has it -/
structure IniK (K : Fg) (P : Program) (fI CE kc cc : Addr) (fd : FuncData) : Prop where
  fn : ∃ od sl, K.lookup fI = some ⟨.type "function", od, .func fd, sl⟩
  par : ∃ ar : Arg, (fd.params.posonlyargs ++ fd.params.args).head? = some ar ∧ ar.arg = "self"
  code : ∃ (oc : Obj) (vs : Array Value) (t t2 : Tok), K.lookup cc = some oc ∧ oc.data = .fields vs ∧ vs[1]? = some (.str fd.qualname t) ∧ vs[2]? = some (.str P.main.file t2)
  cell : ∃ (ok : Obj), K.lookup kc = some ok ∧ ok.data = .cell (some (.ref CE))
  cls : ∃ (oE : Obj) (cd : ClassData), K.lookup CE = some oE ∧ oE.data = .cls cd
  top : (P.main.scope.names.lookup ("super" : Str)).isSome = false
  any : PySem.W.nsIn K cStatics "thirdparty.any" = some none
abbrev iniEnv (fd : FuncData) (L fI : Addr) : Env := callEnv fd L fI
/-- the frame of __init__, entered at s -/
def iniCx (P : Program) (w : World) (K : Fg) (mg : Str → Option Value) (base : Heap) (A : Around) (outer : List Env) (s : Shared) (H : Hp) (fd : FuncData) (fI : Addr) : Cx where
  prog := P
  w := w
  K := K
  mg := mg
  base := base
  A := A.deeper (iniEnv fd s.heap.objs.size fI)
  N := ["self", "value"]
  s_0 := s
  H_0 := H
  env := iniEnv fd s.heap.objs.size fI
  outer := outer
  stack := iniEnv fd s.heap.objs.size fI :: outer
  ex := []
  fn := fun _ => false
  calm := true
  pn := []
  xe := fun _ _ => False
/-! ### exq -/
theorem exq_ok {P : Program} {w : World} {H : Hp} {h : Heap} {a C t1 : Addr} {d : Option Addr} (e : h.get? a = some ({ cls := .ref C, dict := d, data := .fields #[.ref t1, .none, .none, .none, .bool false, .none] } : Obj)) : ObjOk P w H h a (exq a C d t1) :=
  ⟨e, ⟨_, e⟩, fun _ _ z k => k _ z⟩
theorem exq_at {P : Program} {w : World} {H : Hp} {h : Heap} {a C t1 : Addr} {d : Option Addr} (hok : HOk P w H h) (e : H a = some (exq a C d t1)) : h.get? a = some ({ cls := .ref C, dict := d, data := .fields #[.ref t1, .none, .none, .none, .bool false, .none] } : Obj) := by
  have x : ObjOk P w H h a (.ext fun h => h.get? a = some ({ cls := .ref C, dict := d, data := .fields #[.ref t1, .none, .none, .none, .bool false, .none] } : Obj)) := hok a _ e
  exact x.1
section
variable {X : Cx} {pins : List (Addr × Obj)} {σ : Sg} {H : Hp} {s : Shared} {a C t1 : Addr} {f : Str} {y : V} {u : Value} {Q : Unit → Shared → Prop} {E : Value → Shared → Prop} {A : Around}
/-- a thing known by its one object is changed, a new one laid -/
theorem inv_wn {φ : Heap → Prop} {n t' : Nat} {oa on : HO} {h' : Heap} (I : Inv X pins σ H s) (e : H a = some (.ext φ)) (hn : s.heap.objs.size ≤ n) (k : ∀ b o, b ≠ a → s.heap.get? b = some o → h'.get? b = some o) (ha : ∃ o, h'.get? a = some o)
    (ka : ∀ H', ObjOk X.prog X.w H' h' a oa) (kn : ∀ H', ObjOk X.prog X.w H' h' n on) : Inv X pins σ (upd (upd H a oa) n on) { s with heap := h', toks := t' } := by
  have fresh : H n = none := I.hok.fresh hn
  have low : ∀ {b : Addr} {o : Obj}, s.heap.get? b = some o → b ≠ n := fun {b o} z w => absurd (Heap.lt_size z) (by rw [w]; exact Nat.not_lt.mpr hn)
  have far : ∀ {b : Addr}, H b = none → b ≠ a := fun {b} n z => by rw [z, e] at n; cases n
  have oth : ∀ {b : Addr} {o : HO}, H b = some o → (∀ φ, o ≠ .ext φ) → upd (upd H a oa) n on b = some o := fun {b o} z ne => by
    rw [upd_ne (ne_of_none z fresh), upd_ne fun w => ne φ (by rw [w, e] at z; exact (Option.some.inj z).symm)]
    exact z
  refine I.un (t' := t') ⟨fun b o z n _ _ => k b o (far n) z, fun b o z n _ _ => ⟨o.slots, k b o (far n) z⟩, fun b o z n _ => by rw [upd_ne (low z), upd_ne (far n)]; exact n, fun b o z _ => ?_, fun b xs z => oth z (fun _ w => nomatch w), fun b o v z => oth z (fun _ w => nomatch w), fun b ps z => ⟨#[], by rw [oth z (fun _ w => nomatch w)]; simp⟩⟩ fun b o z => ?_
  · by_cases hb : b = a
    · exact hb ▸ ha
    · exact ⟨o, k b o hb z⟩
  · by_cases hd : b = n
    · subst hd
      rw [upd_same] at z; cases z
      exact kn _
    · rw [upd_ne hd] at z
      by_cases hb : b = a
      · subst hb
        rw [upd_same] at z; cases z
        exact ka _
      · rw [upd_ne hb] at z
        exact (I.hok b o z).stay (fun c v hc w => k c v (by
            rcases hc with hc | hc
            · rw [hc]; exact hb
            · intro q; rw [q, e] at hc; cases hc) w) (fun c hc => oth hc fun _ w => nomatch w) fun c xs hc => oth hc fun _ w => nomatch w
/-- the first attribute of an exception -/
theorem exq_set (T : OexC X.K C) (I : Inv X pins σ H s) (e : H a = some (exq a C none t1)) (hno : PySem.W.findIn X.K (.ref C) f = some none) (ry : RelV y u)
    (fin : ∀ dx s', H dx = none → dx ≠ a → Inv X pins σ (upd (upd H a (exq a C (some dx) t1)) dx (.xd [(f, y)])) s' → Q () s') : wpAny (model X.prog X.w) A (setAttr (.ref a) f u) Q E s := by
  obtain ⟨nm, q, N, bs, bm, sn, sub, ab, col, dd, c0, c1, c2, c3, c5, hC, hbm⟩ := T.cls
  have ho := exq_at I.hok e
  have hcl : PySem.W.clsIn X.K C = some { name := nm, bases := bs, mro := .ref C :: bm, ns := N, qualname := q, hasDict := true, slotNames := sn, subclasses := sub, abstract := ab, collection := col, hasDel := false } := by unfold PySem.W.clsIn; rw [hC] <;> rfl
  obtain ⟨hp, g, d, t, os⟩ := s
  refine PySem.W.set_plain I.kIn (od := none) ⟨ho, rfl, rfl, trivial⟩ T.sa (PySem.HandSPX.exc_osa I.kIn ho hcl (show PySem.HandSPX.refsVE (.ref C :: bm) = true from hbm) rfl hno fun h' tk dx k dn dne hx hn => ?_)
  exact fin dx _ (I.hok.fresh dn) dne (inv_wn (t' := tk) I e dn k ⟨_, hx⟩ (fun _ => exq_ok hx) fun _ => ⟨_, hn, L2.relO_put (fs := []) ry fun _ => trivial⟩)
end
section
variable {P : Program} {w : World} {K : Fg} {mg : Str → Option Value} {base : Heap} {A : Around} {outer : List Env} {s : Shared} {H : Hp} {fI CEa kc cc : Addr}
  {nm qu : Str} {pa : Arguments} {p1 p2 p3 p4 p5 p6 p7 p8 p9 q : Pos} {more : List (Str × Const)} {dV kV doc pm ct : Value} {an : Option Addr}
theorem ini_look (L : Addr) : (iniEnv (iniD nm qu pa p1 p2 p3 p4 p5 p6 p7 p8 p9 q more kc dV kV doc pm an (.ref cc) ct) L fI).kindOf "super" = some .globalImplicit ∧ (iniEnv (iniD nm qu pa p1 p2 p3 p4 p5 p6 p7 p8 p9 q more kc dV kV doc pm an (.ref cc) ct) L fI).kindOf "__class__" = some .free ∧ (iniEnv (iniD nm qu pa p1 p2 p3 p4 p5 p6 p7 p8 p9 q more kc dV kV doc pm an (.ref cc) ct) L fI).kindOf "self" = some .local ∧ (iniEnv (iniD nm qu pa p1 p2 p3 p4 p5 p6 p7 p8 p9 q more kc dV kV doc pm an (.ref cc) ct) L fI).kindOf "value" = some .local :=
  ⟨show iniNs.lookup (("super" : Str)) = _ by decide +kernel, show iniNs.lookup (("__class__" : Str)) = _ by decide +kernel, show iniNs.lookup (("self" : Str)) = _ by decide +kernel, show iniNs.lookup (("value" : Str)) = _ by decide +kernel⟩
theorem ini_start (T : IniK K P fI CEa kc cc (iniD nm qu pa p1 p2 p3 p4 p5 p6 p7 p8 p9 q more kc dV kV doc pm an (.ref cc) ct)) (e0 : Env0 P w K mg base A outer s H) (hd : A.handled = none) {a : Addr} {v : V} {u : Value} (rv : RelV v u) {h₁ : Heap} {tk : Nat} {m : Str → Option Value}
    (hns : h₁.Ns s.heap.objs.size m) (m1 : m "self" = some (.ref a)) (m2 : m "value" = some u) (kp : ∀ b o, s.heap.get? b = some o → h₁.get? b = some o) :
    Inv (iniCx P w K mg base A outer s H (iniD nm qu pa p1 p2 p3 p4 p5 p6 p7 p8 p9 q more kc dV kV doc pm an (.ref cc) ct) fI) [] [some (.ref a), some v] H { s with heap := h₁, toks := tk } := by
  obtain ⟨ok, hkc, hkd⟩ := T.cell
  obtain ⟨k1, k2, k3, k4⟩ := ini_look (fI := fI) (nm := nm) (qu := qu) (pa := pa) (p1 := p1) (p2 := p2) (p3 := p3) (p4 := p4) (p5 := p5) (p6 := p6) (p7 := p7) (p8 := p8) (p9 := p9) (q := q) (more := more) (kc := kc) (dV := dV) (kV := kV) (doc := doc) (pm := pm) (an := an) (cc := cc) (ct := ct) s.heap.objs.size
  have atc : ∀ {y c}, (iniEnv (iniD nm qu pa p1 p2 p3 p4 p5 p6 p7 p8 p9 q more kc dV kV doc pm an (.ref cc) ct) s.heap.objs.size fI).cells.lookup y = some c → y = "__class__" ∧ c = kc := fun {y c} e => by
    have e' : ([(("__class__" : Str), kc)] : List (Str × Addr)).lookup y = some c := e
    by_cases hy : y = "__class__"
    · subst hy
      simp [List.lookup] at e'
      exact ⟨rfl, e'.symm⟩
    · have : (y == ("__class__" : Str)) = false := beq_eq_false_iff_ne.mpr hy
      simp [List.lookup, this] at e'
  have hkb := e0.mod.kin _ _ hkc
  have hks := e0.bs _ _ hkb
  have noA : ∀ b : Addr, b ∉ (iniCx P w K mg base A outer s H (iniD nm qu pa p1 p2 p3 p4 p5 p6 p7 p8 p9 q more kc dV kV doc pm an (.ref cc) ct) fI).ex := fun b z => absurd (show b ∈ ([] : List Addr) from z) (by simp)
  refine ⟨⟨e0.mod, rfl, rfl, rfl, Nat.le_refl _, fun y z c e1 e2 => ?_, fun y hy => ?_, fun y c z _ => ?_, fun _ => hd, Around.frames_deeper e0.frames, .inr ⟨rfl, rfl⟩, fun b z => absurd z (noA b), e0.bs, e0.bsz, fun b _ _ => noA b, fun b z => absurd z (noA b), e0.funs, e0.frf⟩,
    rfl, e0.bare, Un.kept kp, ⟨m, hns, fun i y x e1 e2 e3 => ?_⟩, fun y c e => ?_, e0.hok.fresh (Nat.le_refl _), fun y c e => ?_, fun q hq => absurd (show q ∈ ([] : List (Addr × Obj)) ++ [] from hq) (by simp), e0.hok.kept kp, rfl⟩
  · rw [(atc e1).1, (atc e2).1]
  · have hy' : iniNs.lookup y = some .cell ∨ iniNs.lookup y = some .free := hy
    refine ⟨kc, ?_⟩
    have : y = "__class__" := by
      by_cases c1 : y = "self"
      · subst c1; simp [List.lookup] at hy'
      · by_cases c2 : y = "value"
        · subst c2
          have : (("value" : Str) == ("self" : Str)) = false := by decide +kernel
          simp [List.lookup, this] at hy'
        · by_cases c3 : y = "__class__"
          · exact c3
          · by_cases c4 : y = "super"
            · subst c4
              have n1 : (("super" : Str) == ("self" : Str)) = false := by decide +kernel
              have n2 : (("super" : Str) == ("value" : Str)) = false := by decide +kernel
              have n3 : (("super" : Str) == ("__class__" : Str)) = false := by decide +kernel
              simp [List.lookup, n1, n2, n3] at hy'
            · simp [List.lookup, beq_eq_false_iff_ne.mpr c1, beq_eq_false_iff_ne.mpr c2, beq_eq_false_iff_ne.mpr c3, beq_eq_false_iff_ne.mpr c4] at hy'
    subst this
    show ([(("__class__" : Str), kc)] : List (Str × Addr)).lookup ("__class__" : Str) = some kc
    simp [List.lookup]
  · have z : false = true := z
    cases z
  · match i, e1, e2 with
    | 0, e1, e2 =>
      cases e1; cases e2
      exact ⟨.ref a, rfl, .inl ⟨k3, m1⟩⟩
    | 1, e1, e2 =>
      cases e1; cases e2
      exact ⟨u, rv, .inl ⟨k4, m2⟩⟩
    | i + 2, e1, e2 => simp [iniCx] at e1
  · obtain ⟨rfl, rfl⟩ := atc e
    exact ⟨_, ok, kp _ _ hks.1, hkd⟩
  · obtain ⟨rfl, rfl⟩ := atc e
    exact hks.2
/-- the wrapper of ValueError.__init__, called -/
theorem call_mw {E : Value → Shared → Prop} {h : Heap} {g : Array GenState} {d : Drawn} {t : Nat} {os : OsState} {nm q : Str} {C N : Addr} {bs bm : List Value} {hdct : Bool} {sn : List Str} {sub : List Value} {ab : Bool} {col : Option Bool} {dd : Option Addr} {k0 k1 k2 k3 k5 : Option Value} {u e t0 : Addr} {rest : List Value} {Q : Value → Shared → Prop}
    (hC : h.get? C = some (excClassObj nm q C N bs bm hdct sn sub ab col dd k0 k1 k2 k3 k5 "ValueError.__new__")) (he : h.get? e = some (HandSPX.excO C t0)) (hu : h.get? u = some (PySem.W.kxs_mw "ValueError.__init__" e)) (hl : rest.length ≤ sizeLine)
    (fin : ∀ h', (∀ b o, b ≠ e → h.get? b = some o → h'.get? b = some o) → h'.get? e = some (HandSPX.excO C h.objs.size) → h'.get? h.objs.size = some (PySem.W.kdv_tup rest) → Q .none ⟨h', g, d, t, os⟩) : wpAny (model P w) A (call (.ref u) rest) Q E ⟨h, g, d, t, os⟩ := by
  apply wpAny_call; apply codeAny_of_tree
  show wpAny _ A.in1 (callAny (.ref u) ⟨rest, []⟩) _ _ _
  unfold callAny
  apply wpAny_bind; refine wpAny_load hu ?_
  simp only [PySem.W.kxs_mw, show (Value.type "method-wrapper" == Value.type "method" || Value.type "method-wrapper" == Value.type "builtin_function_or_method" || Value.type "method-wrapper" == Value.type "method-wrapper") = true by decide, if_true]
  refine W.KFB.if_so (by decide) ?_
  apply wpAny_bind; refine ESX.check_bound F.excBase_ValueError hC he rfl ?_
  refine wpAny_pure ?_
  refine ⟨Code.quiet_builtin _ (by decide +kernel), codeAny_builtin F.excBase_ValueError.initEntry ?_⟩
  rw [Around.under_plainId F.excBase_ValueError.init.plain _]
  wp_walk
  have hlt : e < h.objs.size := Heap.lt_size he
  refine fin _ ?_ ?_ ?_
  · intro b o hb ho
    rw [Heap.get?_update_other _ _ (Ne.symm hb)]
    exact Heap.get?_push_of_some _ ho
  · rw [Heap.get?_update_self _ (Heap.get?_push_of_some _ he) rfl]
    rfl
  · rw [Heap.get?_update_other _ _ (Nat.ne_of_lt hlt)]
    heap_get
/-- what __init__ does -/
def iniSp (K : Fg) (CEa : Addr) : L2.Sp := fun vs H Q E => ∃ (a C : Addr) (v : V), vs = [.ref a, v] ∧ ErrK K CEa C ∧ H a = some (exo a C none) ∧
  ∀ t1 dx, H t1 = none → H dx = none → t1 ≠ a → dx ≠ a → dx ≠ t1 → Q .non (upd (upd (upd H t1 (.tup [v])) a (exq a C (some dx) t1)) dx (.xd [("value", v)]))
theorem ini_fn {CX : L2.CXT} {k : Nat} (T : IniK K P fI CEa kc cc (iniD nm qu pa p1 p2 p3 p4 p5 p6 p7 p8 p9 q more kc dV kV doc pm an (.ref cc) ct)) (hsup : mg "super" = none) (hpp : (p3.endLine == p5.line) = true) : FnOk P w K mg base CX (k + 1) fI (iniD nm qu pa p1 p2 p3 p4 p5 p6 p7 p8 p9 q more kc dV kV doc pm an (.ref cc) ct) ["self", "value"] (iniSp K CEa) := by
  refine ⟨fun vs H Q E ⟨a, C, v, e, _⟩ => by rw [e]; rfl, fun A outer s H args us vs Q E hr e0 hb hv hs => ?_⟩
  obtain ⟨a, C, v, rfl, EK, ha, fin⟩ := hs
  obtain ⟨u0, u, rfl, r0, ru⟩ := hv.two
  obtain rfl : u0 = Value.ref a := r0
  have KX : K.In s.heap := e0.mod.kin.keeps fun b o e => (e0.bs b o e).1
  have lim : s.heap.NoLimit := e0.mod.nolimit.keeps fun b o e => (e0.bs b o e).1
  obtain ⟨od, sl, hfn⟩ := T.fn
  obtain ⟨ar, hp, har⟩ := T.par
  obtain ⟨oc, vs, tk1, tk2, hcc, hoc, hv1, hv2⟩ := T.code
  obtain ⟨ok, hkc, hkd⟩ := T.cell
  obtain ⟨oE, cd, hoE, hcdE⟩ := T.cls
  obtain ⟨k1, k2, k3, k4⟩ := ini_look (fI := fI) (nm := nm) (qu := qu) (pa := pa) (p1 := p1) (p2 := p2) (p3 := p3) (p4 := p4) (p5 := p5) (p6 := p6) (p7 := p7) (p8 := p8) (p9 := p9) (q := q) (more := more) (kc := kc) (dV := dV) (kV := kV) (doc := doc) (pm := pm) (an := an) (cc := cc) (ct := ct) s.heap.objs.size
  refine ks_codeAny_call_defAt hr.depth (KX _ _ hfn) rfl lim ⟨cc, oc, vs, tk1, rfl, KX _ _ hcc, hoc, hv1⟩ rfl hb ?_ ?_ ?_ rfl rfl rfl
  · intro x hx
    have hx : x ∈ iniNs := hx
    simp at hx; rcases hx with rfl | rfl | rfl | rfl <;> simp
  · intro x hx
    simp at hx
    rcases hx with rfl | rfl
    · exact k3
    · exact k4
  intro h₀ hns kp
  have m1 : (fun x => (List.zip [("self" : Str), ("value" : Str)] [Value.ref a, u]).reverse.lookup x) "self" = some (.ref a) := by
    have : (("self" : Str) == ("value" : Str)) = false := by decide +kernel
    simp [List.lookup, this]
  have m2 : (fun x => (List.zip [("self" : Str), ("value" : Str)] [Value.ref a, u]).reverse.lookup x) "value" = some u := by
    simp [List.lookup]
  obtain ⟨hp0, g, d, t, os⟩ := s
  have J := ini_start (tk := t + 2) T e0 hr.hd ru hns m1 m2 kp
  have hks : ∀ b o, K.lookup b = some o → h₀.get? b = some o := fun b o e => kp _ _ (KX _ _ e)
  have K0 : K.In h₀ := fun b o e => hks b o e
  have hg0 : h₀.Ns mainGlobals mg := e0.mod.glob.keeps fun b o e => kp _ _ (e0.bs b o e).1
  obtain ⟨mb, hb1, hb2⟩ := e0.mod.blt
  have hb0 : h₀.Ns builtinsNs mb := hb1.keeps fun b o e => kp _ _ (e0.bs b o e).1
  obtain ⟨nm', q', N, bs, bm, sn, sub, ab, col, dd, c0, c1, c2, c3, c5, hC, hbm⟩ := EK.oex.cls
  have hclC : PySem.W.clsIn K C = some { name := nm', bases := bs, mro := .ref C :: bm, ns := N, qualname := q', hasDict := true, slotNames := sn, subclasses := sub, abstract := ab, collection := col, hasDel := false } := by unfold PySem.W.clsIn; rw [hC] <;> rfl
  obtain ⟨t0, hx0⟩ := L2.exo_at J.hok ha
  have hx0 : h₀.get? a = some (HandSPX.excO C t0) := hx0
  have aC : a ≠ C := fun z => by
    have := (e0.bs C _ (e0.mod.kin _ _ hC)).2
    rw [← z, ha] at this
    cases this
  refine PySem.ks_wpAt_execs_cons (PySem.ks_wpAt_Expr_any (PySem.ks_wpAt_MethodCall (PySem.ks_wpAt_super_base k1 k2 (by decide +kernel) rfl (hks _ _ hfn) rfl hp rfl (hks _ _ hcc) hoc hv2 (by simp) T.top ?_) (meth_he hpp)))
  rw [PyProof.Rows.loadName_read rfl k1]
  refine Calls.loadGlobal_builtin hg0 hsup hb0 ((hb2 _ (by decide +kernel)).trans PyProof.Rows.Boot.«super») ⟨rfl, ?_⟩
  refine wpAny_loadName_free rfl k2 (c := kc) (by show ([(("__class__" : Str), kc)] : List (Str × Addr)).lookup ("__class__" : Str) = some kc; simp [List.lookup]) ⟨ok, hks _ _ hkc, hkd⟩ ?_ (by decide +kernel)
  rw [har]
  refine wpAny_loadName_local rfl k3 hns m1 ?_
  refine ks_wpAny_isType_cls (hks _ _ hoE) hcdE ⟨rfl, ?_⟩
  refine ks_wpAny_call_super (hks _ _ hoE) hcdE hx0 rfl (fun c z => by cases z) (PySem.W.looks_subIn K0 EK.sub) fun h1 e1 kp1 => ?_
  have K1 : K.In h1 := fun b o e => kp1 _ _ (K0 b o e)
  have hx1 := kp1 _ _ hx0
  have hsup' : PySem.W.alongIn K "__init__" ((((Value.ref C :: bm)).dropWhile (· != .ref CEa)).drop 1) = some (some (.builtin "ValueError.__init__")) := by
    have z := EK.sup
    unfold PySem.W.ks_superIn at z
    rw [hclC] at z
    exact z
  have IA : PySem.W.InstAt h1 a (HandSPX.excO C t0) C none := ⟨hx1, rfl, rfl, trivial⟩
  refine PySem.W.kxs_getMethod PySem.W.kxs_ValueError e1 (PySem.W.looks_opaque K1 T.any) ((PySem.W.looks_clsIn K1 hclC).andThen .now) rfl K1 hsup' (IA.type.andThen (PySem.W.looks_subIn K1 EK.ve)) aC (by decide +kernel) ?_
  dsimp only
  have hmw : (h1.push (PySem.W.kxs_mw "ValueError.__init__" a)).get? h1.objs.size = some (PySem.W.kxs_mw "ValueError.__init__" a) := by heap_get
  have kp2 : ∀ b o, h1.get? b = some o → (h1.push (PySem.W.kxs_mw "ValueError.__init__" a)).get? b = some o := fun b o e => Heap.get?_push_of_some _ e
  refine PySem.W.kxs_callWith (x := a) (i := "ValueError.__init__") rfl ?_
  show wpAny _ _ (evalArgs _ true ((false, eval (.Name "value" p4) _) :: backTo p5 (starEach [] _)) []) _ _ _
  refine Calls.evalArgs_plain ?_
  refine Calls.spliced_cons ?_
  refine wpAny_Name ?_
  refine wpAny_loadName_local rfl k4 (hns.keeps fun b o e => kp2 _ _ (kp1 _ _ e)) m2 ?_
  refine Calls.spliced_nil ⟨hmw, ?_⟩
  have hC2 : (h1.push (PySem.W.kxs_mw "ValueError.__init__" a)).get? C = some (excClassObj nm' q' C N bs bm true sn sub ab col dd c0 c1 c2 c3 c5 "ValueError.__new__") := kp2 _ _ (K1 _ _ hC)
  refine call_mw hC2 (kp2 _ _ hx1) hmw (by show 1 ≤ sizeLine; rw [sizeLine_eq]; omega) fun h2 k2 ex et => ?_
  have up0 : h₀.objs.size ≤ h1.objs.size + 1 := by
    have z : h₀.objs.size < h1.objs.size := Heap.lt_size e1
    omega
  have et' : h2.get? (h1.objs.size + 1) = some (PySem.W.kdv_tup [u]) := by
    have z : (h1.push (PySem.W.kxs_mw "ValueError.__init__" a)).objs.size = h1.objs.size + 1 := by simp
    rw [← z]; exact et
  have ex' : h2.get? a = some (HandSPX.excO C (h1.objs.size + 1)) := by
    have z : (h1.push (PySem.W.kxs_mw "ValueError.__init__" a)).objs.size = h1.objs.size + 1 := by simp
    rw [← z]; exact ex
  have J1 := inv_wn (t' := t + 2 + 1) (n := h1.objs.size + 1) (oa := exq a C none (h1.objs.size + 1)) (on := .tup [v]) J ha up0 (fun b o hb z => k2 b o hb (kp2 _ _ (kp1 _ _ z))) ⟨_, ex'⟩ (fun _ => exq_ok ex') fun _ => ⟨by show 1 ≤ sizeLine; rw [sizeLine_eq]; omega, [u], .cons ru .nil, _, et', rfl, _, rfl⟩
  have ht1 : H (h1.objs.size + 1) = none := J.hok.fresh up0
  have t1a : h1.objs.size + 1 ≠ a := fun z => by rw [z, ha] at ht1; cases ht1
  have ea : upd (upd H a (exq a C none (h1.objs.size + 1))) (h1.objs.size + 1) (.tup [v]) a = some (exq a C none (h1.objs.size + 1)) := by rw [upd_ne (Ne.symm t1a), upd_same]
  refine ks_wpAt_execs_cons (wpAt_of_wpAny ?_)
  refine plainObj_wpAny_Assign_Attribute (wpAny_mono ((L2.pe_var (X := iniCx P w K mg base A outer ⟨hp0, g, d, t, os⟩ H (iniD nm qu pa p1 p2 p3 p4 p5 p6 p7 p8 p9 q more kc dV kV doc pm an (.ref cc) ct) fI) (i := 1) (x := "value") rfl (.inl k4)).run [] _ _ _ (fun v' H' => v' = v ∧ H' = _) J1 ⟨v, rfl, rfl, rfl⟩) (fun uv s3 ⟨v', H', I3, r3, ev, eH⟩ => ?_) fun _ _ z => (show False from z).elim)
  subst ev
  rw [eH] at I3
  refine wpAny_mono ((L2.pe_var (X := iniCx P w K mg base A outer ⟨hp0, g, d, t, os⟩ H (iniD nm qu pa p1 p2 p3 p4 p5 p6 p7 p8 p9 q more kc dV kV doc pm an (.ref cc) ct) fI) (i := 0) (x := "self") rfl (.inl k3)).run [] _ _ _ (fun v' H' => v' = .ref a ∧ H' = _) I3 ⟨.ref a, rfl, rfl, rfl⟩) (fun ua s4 ⟨w', H4, I4, r4, ew, eH4⟩ => ?_) fun _ _ z => (show False from z).elim
  subst ew
  rw [eH4] at I4
  obtain rfl : ua = Value.ref a := r4
  refine exq_set EK.oex I4 ea EK.noV r3 fun dx s5 n5 dn5 J5 => ?_
  have e5 : (upd (upd (upd (upd H a (exq a C none (h1.objs.size + 1))) (h1.objs.size + 1) (.tup [v'])) a (exq a C (some dx) (h1.objs.size + 1))) dx (.xd [("value", v')])) = upd (upd (upd H (h1.objs.size + 1) (.tup [v'])) a (exq a C (some dx) (h1.objs.size + 1))) dx (.xd [("value", v')]) := by
    funext b
    by_cases b1 : b = dx
    · subst b1; rw [upd_same, upd_same]
    · rw [upd_ne b1, upd_ne b1]
      by_cases b2 : b = a
      · subst b2; rw [upd_same, upd_same]
      · rw [upd_ne b2, upd_ne b2]
        by_cases b3 : b = h1.objs.size + 1
        · subst b3; rw [upd_same, upd_same]
        · rw [upd_ne b3, upd_ne b3, upd_ne b2]
  have dt : dx ≠ h1.objs.size + 1 := fun z => by rw [z, upd_same] at n5; cases n5
  have nH : H dx = none := by rw [upd_ne dt, upd_ne dn5] at n5; exact n5
  rw [e5] at J5
  exact wpAt_of_wpAny (wpAny_pure ⟨.non, _, J5.os, J5.bare, J5.base, J5.hok, rfl, fin _ dx ht1 nH t1a dn5 dt⟩)
end
end Mi
end
section
set_option Elab.async false
set_option linter.all false
set_option maxRecDepth 100000
set_option maxHeartbeats 2000000
/-! X2: an exception as a value: made, its class asked, its value read. -/
namespace Mi
open PySem
open L2 (V HO Hp upd upd_same upd_ne Cx Inv PE PT PA PS PSs TE TT TA TS VK XK RelV RelO Vals Room Env0 Un HOk ObjOk Mod CE CR FnOk OexC exo exd frs ne_of_none EP CallR Gl)
/-! ### isinstance -/
theorem sub_own {K : Fg} {CEa fI : Addr} {c : Str} {C : Addr} (F : ErrF K CEa fI c C) (u : Value) : PySem.W.subIn K (.ref C) u = some (decide (u = .ref C) || (decide (u = .ref CEa) || veTail.contains u)) := by
  obtain ⟨cd, own, e1, e2, e3, e4⟩ := F.cd
  show PySem.W.mroIn K C u = _
  unfold PySem.W.mroIn
  rw [e1, Option.bind_some, if_neg (by rw [e3]; simp), e3]
  rcases e4 with rfl | ⟨rfl, rfl⟩
  · simp [List.contains_cons]
  · simp [List.contains_cons, ← Bool.or_assoc]
theorem cn_fun {K : Fg} {c : Str} {C D : Addr} (h1 : CN K c C) (h2 : CN K c D) : C = D := by
  unfold CN at h1 h2
  rw [h1] at h2
  simpa using h2
theorem own_name {K : Fg} {CE1 fI1 CE2 fI2 : Addr} {c d : Str} {C : Addr} (F : ErrF K CE1 fI1 c C) (G : ErrF K CE2 fI2 d C) : c = d := by
  obtain ⟨cd, _, e1, e2, _⟩ := F.cd
  obtain ⟨cd', _, f1, f2, _⟩ := G.cd
  rw [e1] at f1
  cases f1
  rw [← e2, f2]
theorem one_own {K : Fg} {CEa fI CE2 fI2 : Addr} {c d : Str} {C D : Addr} (F : ErrF K CEa fI c C) (G : ErrF K CE2 fI2 d D) : PySem.W.kitOne K (.ref C) (.ref D) = some (decide (c = d) || d == "CellarError") := by
  have eCE : CE2 = CEa := cn_fun G.ce F.ce
  subst eCE
  have eD : (d == "CellarError") = decide (D = CE2) := by
    by_cases h : d = "CellarError"
    · subst h
      have := cn_fun G.cn G.ce
      simp [this]
    · have : D ≠ CE2 := fun z => by
        obtain ⟨cd, _, e1, e2, _⟩ := G.cd
        obtain ⟨cd', f1, f2⟩ := G.nce
        rw [z, f1] at e1
        cases e1
        exact h (e2.symm.trans f2)
      simp [h, this]
  by_cases h : C = D
  · subst h
    have := own_name F G
    subst this
    unfold PySem.W.kitOne
    simp
  · have hc : c ≠ d := fun z => h (cn_fun F.cn (z ▸ G.cn))
    unfold PySem.W.kitOne
    rw [if_neg (by simpa using h)]
    unfold PySem.W.kitCls
    obtain ⟨cd, own, e1, e2, e3, e4⟩ := G.cd
    dsimp only
    rw [if_pos (by rw [e1, G.er.oex.tyC]; simp), sub_own F, eD]
    have h' : ¬ Value.ref D = Value.ref C := fun z => h (Value.ref.inj z).symm
    simp [hc, h', veTail, List.contains_cons]
theorem one_ve {K : Fg} {CEa fI : Addr} {c : Str} {C : Addr} (F : ErrF K CEa fI c C) : PySem.W.kitOne K (.ref C) (.type "ValueError") = some true := by
  unfold PySem.W.kitOne
  rw [if_neg (by simp)]
  unfold PySem.W.kitCls
  dsimp only
  rw [if_pos (by decide +kernel), sub_own F]
  simp [veTail, List.contains_cons]
/-- the class of a value that is none of the errors -/
theorem one_ty {K : Fg} {CEa fI : Addr} {c : Str} {C : Addr} (F : ErrF K CEa fI c C) {t : String} {l : List Value} (e : fastBuiltinMro t = some l) (h : l.contains (.ref C) = false) : PySem.W.kitOne K (.type t) (.ref C) = some false := by
  obtain ⟨cd, own, e1, e2, e3, e4⟩ := F.cd
  unfold PySem.W.kitOne
  rw [if_neg (by simp)]
  unfold PySem.W.kitCls
  dsimp only
  rw [if_pos (by rw [e1, F.er.oex.tyC]; simp)]
  show (fastBuiltinMro t).map (·.contains (Value.ref C)) = some false
  rw [e, Option.map_some, h]
section
variable {X : Cx} {pins : List (Addr × Obj)} {σ : Sg} {H : Hp} {s : Shared} {a C dx : Addr} {t1 : Option Addr} {fs : List (Str × V)}
theorem exw_at (I : Inv X pins σ H s) (h1 : H a = some (exw a C dx t1)) (h2 : H dx = some (.xd fs)) : ∃ oe od, PySem.W.InstAt s.heap a oe C (some od) ∧ oe.dict = some dx ∧ (∃ vs, oe.data = .fields vs ∧ ∀ t, t1 = some t → vs[0]? = some (.ref t)) ∧
    ∃ mA, s.heap.Ns1 dx mA ∧ (∀ f, RelO (fs.lookup f) (mA f)) ∧ s.heap.get? dx = some od ∧ ∀ n, PySem.W.lookIn n od = some (mA n) := by
  have x : ObjOk X.prog X.w H s.heap a (.ext fun h => ∃ oe vs, h.get? a = some oe ∧ oe.cls = .ref C ∧ oe.dict = some dx ∧ oe.data = .fields vs ∧ ∀ t, t1 = some t → vs[0]? = some (.ref t)) := I.hok a _ h1
  obtain ⟨oe, vs, e1, e2, e3, e4, e5⟩ := x.1
  obtain ⟨mA, hns, hr⟩ := (show ObjOk X.prog X.w H s.heap dx (.xd fs) from I.hok dx _ h2)
  obtain ⟨od, ho, hl⟩ := L2.lookIn_ns hns
  exact ⟨oe, od, ⟨e1, e2, by unfold PySem.W.notCls; rw [e4], by rw [e3]; exact ho⟩, e3, ⟨vs, e4, e5⟩, mA, hns, hr, ho, hl⟩
end
/-! ### x.__class__, x an exception with its dict -/
section
variable {prog : Program} {w : World} {A : Around} {E : Value → Shared → Prop} {s : Shared} {K : Fg} {x D : Addr} {ox : Obj} {od : Option Obj}
theorem kin_dct {Q : Option Value → Shared → Prop} (T : L2.ExcC K D) (X : K.In s.heap) (I : PySem.W.InstAt s.heap x ox D od) (h : Q (some (.ref D)) { s with toks := s.toks + 1 }) : wpAny (model prog w) A (getAttr? (.ref x) "__class__") Q E s := by
  have hfo : PySem.W.findObj K D od "__class__" = some (.bind (.builtin "getset_descriptor.__get__") (.builtin "object.__class__")) := by
    obtain ⟨cd, hc, _⟩ := PySem.W.any_some T.hd
    unfold PySem.W.findObj
    rw [hc, Option.bind_some, T.ha, Option.bind_some]
    simp only [T.hn, Option.bind_some, T.ht]
  obtain ⟨hp, g, d, t, os⟩ := s
  have tyL := I.type (M := model prog w)
  have isB : PySem.W.Looks (model prog w) hp (isInstance (.ref x) (.type "BaseException")) true := tyL.andThen (PySem.W.looks_subIn X T.hs)
  have ne1 : (onTheHeap (Value.ref D) && Value.builtin "BaseException.__getattribute__" == Value.builtin "object.__getattribute__") = false := by rw [show (Value.builtin "BaseException.__getattribute__" == Value.builtin "object.__getattribute__") = false by decide +kernel, Bool.and_false]
  have ne2 : (false && onTheHeap (Value.builtin "BaseException.__getattribute__")) = false := Bool.false_and _
  unfold getAttr? getAttrBy? getAttrBy
  refine wpAny_bind (wpAny_mkText (wpAny_bind (wpAny_attempt (wpAny_holding (wpAny_bind (tyL.at (wpAny_bind ((PySem.W.looks_findIn (M := model prog w) X T.hg).at ?_))))))))
  dsimp only
  rw [if_neg (by rw [ne1]; exact Bool.false_ne_true)]
  unfold getAttrByItsOwn hookBefore callGetattribute boundAndCalled
  refine wpAny_bind ?_
  rw [if_pos (show onTheHeap (Value.ref D) = true from rfl)]
  refine (PySem.W.looks_findIn (M := model prog w) X T.hk).at (wpAny_bind (wpAny_attempt (wpAny_holding ?_)))
  rw [if_neg (by rw [ne2]; exact Bool.false_ne_true), F.excAttr_ValueError.ga.bind (.ref x)]
  refine wpAny_bind (wpAny_pure ?_)
  refine wpAny_call (codeAny_call_builtin F.excAttr_ValueError.ga.plain F.entry_bexc_ga (@PySem.W.check_slot (model prog w) _ _ ⟨hp, g, d, t + 1, os⟩ "BaseException.__getattribute__" "BaseException" "__getattribute__" (.ref x) [.str "__class__" t] [] _ (by decide +kernel) (by decide +kernel) isB (F.args_bexc_ga _ _) ?_))
  unfold Builtin.«object.__getattribute__»
  refine wpAny_bind (wpAny_of_eq (a := ((Value.ref x : Value), [Value.str "__class__" t])) (by first | rfl | (simp only [slotArgs]; rfl)) (wpAny_bind (wpAny_pure (wpAny_bind (tyL.at (wpAny_bind ((PySem.W.looks_find (M := model prog w) X I hfo).at ?_)))))))
  dsimp only
  refine wpAny_bind (wpAny_holding (wpAny_call (PySem.W.class_get (s := ⟨hp, g, d, t + 1, os⟩) (ox := ox) (od := od) X I T.hm ?_)))
  refine wpAny_pure (show wpAny _ _ (handedOut (.ref D)) _ _ _ from ?_)
  rw [PySem.W.handedOut_of (v := .ref D) rfl]
  first
    | exact wpAny_pure (wpAny_pure h)
    | exact wpAny_pure h
    | exact wpAny_pure (wpAny_bind (wpAny_pure (wpAny_pure h)))
theorem kitx_dct (T : L2.ExcC K D) (hx : L2.XfC K D) : PySem.W.KitX K (.ref x) (.ref D) (fun h => PySem.W.InstAt h x ox D od) := by
  obtain ⟨cd, hc, _⟩ := PySem.W.any_some T.hd
  have obj : ∃ o, K.lookup D = some o ∧ ∃ d, o.data = .cls d := by
    unfold PySem.W.clsIn at hc
    split at hc
    · rename_i ho; exact ⟨_, ho, _, rfl⟩
    · cases hc
  obtain ⟨o, ho, dd, hd⟩ := obj
  refine ⟨fun _ _ _ I => I.type, fun _ _ X _ A' Q' E' s' k q => ?_, fun h tp _ its n sl X htp => ?_, fun X I k => kin_dct T X I k⟩
  · unfold isType loadHead
    refine wpAny_bind (wpAny_loadPart_at (k _ _ (X _ _ ho)) ?_)
    rw [hd]
    exact wpAny_pure q
  · refine Bool.eq_false_iff.mpr fun q => ?_
    obtain rfl : D = tp := Value.ref.inj (beq_iff_eq.mp q)
    have z := (X _ _ ho).symm.trans htp
    rw [Option.some.inj z] at hd
    cases hd
end
theorem dct_tg {K : Fg} {m : Addr → Prop} {H : Hp} : ∀ {kvs : List (P × P)} {ks : List (L2.Key × V)}, KReq K m H kvs ks → tgOf (.dict kvs) ≠ .x
  | _, _, .nil => fun h => by cases h
  | _, _, .cons (k := k) e _ _ => fun h => by subst e; cases k <;> cases h
def allTy : Option (List Value) → Bool
  | some l => l.all fun v => match v with | .type _ => true | _ => false
  | none => false
theorem allTy_of {o : Option (List Value)} (h : allTy o = true) : ∃ l, o = some l ∧ ∀ A, l.contains (.ref A) = false := by
  cases o with
  | none => cases h
  | some l =>
    refine ⟨l, rfl, fun A => ?_⟩
    have h : l.all _ = true := h
    cases q : l.contains (Value.ref A) with
    | false => rfl
    | true =>
      have := List.all_eq_true.mp h _ (List.contains_iff_mem.mp q)
      cases this
/-- what the name D stands for -/
inductive ClsD (K : Fg) : Str → V → Value → Prop where
  | own {D : Str} {C : Addr} : ErrC K D C → ClsD K D (.ref C) (.ref C)
  | ve : ClsD K "ValueError" (.ty "ValueError") (.type "ValueError")
section
variable {C : Cx} {pins : List (Addr × Obj)} {s : Shared} {σ : Sg} {H : Hp}
theorem bIsx {D : Str} {vd : V} {ud : Value} {us : List Value} {Q : VK} (I : Inv C pins σ H s) {m : Addr → Prop} {x : P} {v : V} {b : Bool} (h : RdP C.K m H x v) (hD : ClsD C.K D vd ud) (e : isxP D x = some b) (r : Vals [v, vd] us) (q : Q (.bl b) H) :
    wpAny (model C.prog C.w) C.A (call (.builtin "isinstance") us) (EP C pins σ Q) C.xe s := by
  have kc : L2.ClsV vd ud := by cases hD <;> constructor
  by_cases hx : tgOf x = .x
  · have hr : RepP C.K m H x v := by
      cases h with
      | of h => exact h
      | lst _ _ => cases hx
    cases hr with
    | exc hc h1 h2 h3 h4 h5 =>
      rename_i a Ca dx t1 c y w fs q0
      obtain ⟨CEa, fI, F⟩ := hc
      obtain ⟨oe, od, IA, _⟩ := exw_at I h1 h2
      obtain ⟨u1, u2, rfl, r1, r2⟩ := L2.vals2 r
      cases (show u1 = Value.ref a from r1)
      have e2 := kc.eq r2
      subst e2
      refine PySem.W.kia_one (kitx_dct F.ex F.xf) I.kIn IA (b := b) ?_ (fun z => nomatch z) fun tk => ⟨.bl b, H, I.tok tk, rfl, q⟩
      cases hD with
      | own hd =>
        obtain ⟨CE2, fI2, G⟩ := hd
        rw [one_own F G]
        simp only [isxP, exP, Option.some.injEq] at e
        rw [← e]
        have : (D == "ValueError") = false := by simpa using G.nv
        simp [this]
      | ve =>
        rw [one_ve F]
        simp [isxP, exP] at e
        rw [← e]
    | dct hd rk =>
      exfalso
      revert hx
      exact dct_tg (by assumption)
    | _ => cases hx
  · have hb : b = false := by
      unfold isxP at e
      split at e
      · exact absurd rfl hx
      · cases e
      · cases e; rfl
    subst hb
    have hg : ∃ l, fastBuiltinMro (tgN (tgOf x)) = some l ∧ (∀ A, l.contains (.ref A) = false) ∧ L2.kitB (tgN (tgOf x)) "ValueError" = some false := by
      generalize tgOf x = g at hx
      cases g <;> first | exact absurd rfl hx | exact (allTy_of (by decide +kernel)).imp fun l h => ⟨h.1, h.2, by decide +kernel⟩
    obtain ⟨l, l1, l2, l3⟩ := hg
    refine L2.call_isi pins s σ H _ us Q I r ⟨v, vd, .type (tyOf x), ud, false, rfl, kc, rd_ty h hx, ?_, q⟩
    cases hD with
    | own hd =>
      obtain ⟨_, _, G⟩ := hd
      exact one_ty G l1 (l2 _)
    | ve => exact L2.kit_ty l3
end
end Mi
end
section
set_option Elab.async false
set_option linter.all false
set_option maxRecDepth 100000
set_option maxHeartbeats 1000000
/-! D1: dicts. -/
namespace Mi
open PySem
open L2 (V HO Hp upd upd_same upd_ne SqL SqT Rd Cx Inv PE PT PA PS PSs PG PGs PI TE TT TA TS TG TGs TI It VK XK Ends RelV Vals ne_of_none OpR R2 EP CallR UnR IxR SlR TruR Gl Vis Loc Itl Itt Itr wipe Key valV putK DGet DPut)
theorem dk_key (a b : Key) : dkEq (keyV a) (keyV b) = decide (a = b) := by
  cases a <;> cases b <;> simp [dkEq, keyV]
theorem key_ex {v : Vl} {k : P} (h : key? v = some k) : ∃ kk, k = keyV kk ∧ v = .p (keyV kk) := by
  unfold key? at h
  split at h
  · rename_i x
    split at h
    · rename_i hk
      cases h
      cases k with
      | int i => exact ⟨.inl i, rfl, rfl⟩
      | str x => exact ⟨.inr x, rfl, rfl⟩
      | _ => cases hk
    · cases h
  · cases h
section
variable {K : Fg} {m : Addr → Prop} {H : Hp} {O : Addr → Prop} {ρ : Nat → Addr} {st : Sr}
theorem key_rep {kk : Key} {y : V} (h : RepP K m H (keyV kk) y) : y = L2.kV kk := by
  cases kk with
  | inl i => exact h.int_inv
  | inr x => exact h.str_inv
theorem rep_key {kk : Key} : RepP K m H (keyV kk) (L2.kV kk) := by
  cases kk with
  | inl i => exact .int i
  | inr x => exact .str x
theorem KReq.get (kk : Key) : ∀ {kvs : List (P × P)} {ks : List (Key × V)}, KReq K m H kvs ks → (dget kvs (keyV kk) = none ∧ valV ks kk = none) ∨ ∃ x v, dget kvs (keyV kk) = some x ∧ valV ks kk = some v ∧ RepP K m H x v
  | _, _, .nil => .inl ⟨rfl, rfl⟩
  | _, _, .cons (x := x) (y := y) (k := k) (v := v) (r := r) (s := s) e h t => by
    subst e
    by_cases q : k = kk
    · subst q
      exact .inr ⟨y, v, by simp [dget, dk_key], by simp [valV], h⟩
    · have ih := KReq.get kk t
      have e1 : dget ((keyV k, y) :: r) (keyV kk) = dget r (keyV kk) := by simp [dget, dk_key, q]
      have e2 : valV ((k, v) :: s) kk = valV s kk := L2.valV_neg q
      rw [e1, e2]
      exact ih
theorem KReq.app : ∀ {kvs ls : List (P × P)} {ks us : List (Key × V)}, KReq K m H kvs ks → KReq K m H ls us → KReq K m H (kvs ++ ls) (ks ++ us)
  | _, _, _, _, .nil, t => t
  | _, _, _, _, .cons e h r, t => .cons e h (KReq.app r t)
theorem KReq.rep (kk : Key) {x : P} {v : V} (hx : RepP K m H x v) : ∀ {kvs : List (P × P)} {ks : List (Key × V)}, KReq K m H kvs ks → KReq K m H (kvs.map fun q => if dkEq q.1 (keyV kk) then (q.1, x) else q) (ks.map fun q => if q.1 = kk then (q.1, v) else q)
  | _, _, .nil => .nil
  | _, _, .cons (k := k) e h t => by
    subst e
    rw [List.map_cons, List.map_cons]
    by_cases q : k = kk
    · subst q
      simp only [dk_key, decide_true, if_true]
      exact .cons rfl hx (KReq.rep _ hx t)
    · simp only [dk_key, q, decide_false, if_false]
      exact .cons rfl h (KReq.rep kk hx t)
theorem KReq.put {kvs : List (P × P)} {ks : List (Key × V)} (h : KReq K m H kvs ks) (kk : Key) {x : P} {v : V} (hx : RepP K m H x v) : KReq K m H (dput kvs (keyV kk) x) (putK ks kk v) := by
  unfold dput putK
  rw [L2.valV_any]
  rcases h.get kk with ⟨q1, q2⟩ | ⟨y, u, q1, q2, _⟩
  · rw [q1, q2]
    exact h.app (.cons rfl hx .nil)
  · rw [q1, q2]
    exact h.rep kk hx
theorem KReq.len : ∀ {kvs : List (P × P)} {ks : List (Key × V)}, KReq K m H kvs ks → kvs.length = ks.length
  | _, _, .nil => rfl
  | _, _, .cons _ _ t => by simp [t.len]
theorem KReq.at : ∀ {kvs : List (P × P)} {ks : List (Key × V)} {i : Nat} {q : P × P}, KReq K m H kvs ks → kvs[i]? = some q → ∃ kk v, ks[i]? = some (kk, v) ∧ q.1 = keyV kk ∧ RepP K m H q.2 v
  | _, _, _, _, .nil, h => by simp at h
  | _, _, 0, _, .cons e h r, q => by simp at q; subst q; exact ⟨_, _, rfl, e, h⟩
  | _, _, i + 1, q, .cons e h r, z => by
    obtain ⟨kk, v, h1, h2, h3⟩ := KReq.at (i := i) (q := q) r (by simpa using z)
    exact ⟨kk, v, by simpa using h1, h2, h3⟩
theorem dat_ok {o : Vl} {kvs : List (P × P)} {x : V} (S : RelS K O ρ H st) (h : dat o st = some kvs) (r : Rep K O ρ st H o x) : ∃ l ks, x = .ref l ∧ Rd H l (.dK ks) ∧ KReq K (Mt O ρ st) H kvs ks := by
  unfold dat at h
  split at h
  · rename_i n
    obtain ⟨hn, rfl⟩ := r
    split at h
    · rename_i z kvs' q
      cases h
      obtain ⟨w, f1, ks, f2, f3⟩ := S.ob n _ q
      refine ⟨_, ks, rfl, ?_, f3⟩
      rcases f2 with ⟨_, rfl⟩ | ⟨_, o, rfl⟩
      · exact .inl f1
      · exact .inr ⟨o, f1⟩
    · cases h
  · cases h
theorem dix_ok {o i : Vl} {w : P} {x y : V} (S : RelS K O ρ H st) (h : dixV o i st = some w) (ro : Rep K O ρ st H o x) (ri : Rep K O ρ st H i y) : ∃ l z, x = .ref l ∧ DGet H l y (some z) ∧ RepP K (Mt O ρ st) H w z := by
  unfold dixV at h
  split at h
  · rename_i kvs k q1 q2
    obtain ⟨l, ks, rfl, d1, d2⟩ := dat_ok S q1 ro
    obtain ⟨kk, rfl, rfl⟩ := key_ex q2
    have ey := key_rep ri
    subst ey
    rcases d2.get kk with ⟨z1, _⟩ | ⟨x', v, z1, z2, z3⟩
    · rw [h] at z1; cases z1
    · rw [h] at z1
      cases z1
      exact ⟨l, v, rfl, .inl ⟨ks, kk, d1, rfl, z2.symm⟩, z3⟩
  · cases h
theorem din_ok {n : Bool} {o i : Vl} {b : Bool} {x y : V} (S : RelS K O ρ H st) (h : dinV n i o st = some b) (ro : Rep K O ρ st H o x) (ri : Rep K O ρ st H i y) : ∃ l w, x = .ref l ∧ DGet H l y w ∧ b = (w.isSome != n) := by
  unfold dinV at h
  split at h
  · rename_i kvs k q1 q2
    cases h
    obtain ⟨l, ks, rfl, d1, d2⟩ := dat_ok S q1 ro
    obtain ⟨kk, rfl, rfl⟩ := key_ex q2
    have ey := key_rep ri
    subst ey
    refine ⟨l, valV ks kk, rfl, .inl ⟨ks, kk, d1, rfl, rfl⟩, ?_⟩
    rcases d2.get kk with ⟨z1, z2⟩ | ⟨x', v, z1, z2, z3⟩ <;> rw [z1, z2] <;> rfl
  · cases h
theorem dict_upd {n : Nat} {kvs ls : List (P × P)} {ks : List (Key × V)} (S : RelS K O ρ H st) (hn : st[n]? = some (.dp 0 kvs)) (r : KReq K (Mt O ρ st) H ls ks) :
    Stp ρ st H ρ (st.set n (.dp 0 ls)) (L2.upd H (ρ n) (.dK ks)) ∧ RelS K O ρ (L2.upd H (ρ n) (.dK ks)) (st.set n (.dp 0 ls)) := by
  have s : Stp ρ st H ρ (st.set n (.dp 0 ls)) (L2.upd H (ρ n) (.dK ks)) := Stp.upd hn rfl (fun _ z => nomatch z) (fun _ _ z => nomatch z) (fun _ _ _ => ⟨_, _, rfl⟩) S
  exact ⟨s, S.upd hn s ⟨ks, .inl ⟨rfl, rfl⟩, r.map fun h => h.stp S s⟩⟩
theorem dput_ok {o i v : Vl} {st' : Sr} {x y u : V} (S : RelS K O ρ H st) (h : dputV o i v st = some st') (ro : Rep K O ρ st H o x) (ri : Rep K O ρ st H i y) (rv : Rep K O ρ st H v u) :
    ∃ l ks kk, x = .ref l ∧ y = L2.kV kk ∧ H l = some (.dK ks) ∧ ks.length < sizeLine ∧ Stp ρ st H ρ st' (L2.upd H l (.dK (putK ks kk u))) ∧ RelS K O ρ (L2.upd H l (.dK (putK ks kk u))) st' ∧ (dixV o i st = none → valV ks kk = none) := by
  unfold dputV at h
  split at h
  · rename_i n k x' q1
    obtain ⟨hn, rfl⟩ := ro
    split at h
    · rename_i kvs q2
      split at h
      · rename_i hl
        cases h
        obtain ⟨w, f1, ks, f2, f3⟩ := S.ob n _ q2
        obtain ⟨kk, rfl, rfl⟩ := key_ex q1
        have ey := key_rep ri
        subst ey
        rcases f2 with ⟨_, rfl⟩ | ⟨z, _⟩
        · obtain ⟨b1, b2⟩ := dict_upd S q2 (f3.put kk rv)
          refine ⟨_, ks, kk, rfl, rfl, f1, ?_, b1, b2, fun hd => ?_⟩
          · rw [← f3.len]
            exact Nat.lt_of_lt_of_le hl (by decide +kernel)
          · simp only [dixV, dat, q2, q1] at hd
            rcases f3.get kk with ⟨_, z2⟩ | ⟨_, _, z1, _, _⟩
            · exact z2
            · rw [hd] at z1; cases z1
        · exact absurd rfl z
      · cases h
    · cases h
  · cases h
end
section
variable {C : Cx} {W : Str → Option Addr → Hp → Prop} {a b c : Expr} {es : List Expr} {fa fb fc : En → Sr → R Vl} {fs : En → Sr → R (List Vl)} {pos : Pos} {tg : Expr}
theorem xDix (hu : C.A.units + 65 < cLine) (ha : PE C a (TrE C.K W fa)) (hb : PE C b (TrE C.K W fb)) (hs : L2.PlainIx b) : PE C (.Subscript a b pos) (TrE C.K W fun e s => (fa e s).bd fun o s => (fb e s).bd fun i s => R.of ((dixV o i s).map .p) s) :=
  imE (L2.pe_dget (by omega) ha hb hs) fun σ H Q ⟨O, ρ, e, st, R, h⟩ => ⟨O, ρ, e, st, R, End.bd R.S h fun x st1 ρ1 H1 v _ s1 S1 r1 h1 => ⟨O, ρ1, e, st1, R.go s1 S1, End.bd S1 h1 fun y st2 ρ2 H2 u _ s2 S2 r2 h2 => by
    cases q : dixV x y st2 with
    | none => rw [q] at h2; exact h2.elim
    | some w =>
      rw [q] at h2
      obtain ⟨l, z, e1, e2, e3⟩ := dix_ok S2 q (Rep.stp S1 s2 r1) r2
      exact ⟨l, z, e1, e2, h2.at S2 e3⟩⟩⟩
theorem cDin (hu : C.A.units + 65 < cLine) {n : Bool} (ha : PE C a (TrE C.K W fa)) (hb : PE C b (TrE C.K W fb)) : L2.PC C (if n then .NotIn else .In) a b (TrE C.K W fun e s => (fa e s).bd fun x s => (fb e s).bd fun o s => R.of ((dinV n x o s).map fun b => .p (.bool b)) s) := by
  have im : ∀ {op : CmpOp} {t t' : TE}, L2.PC C op a b t' → (∀ σ H Q, t σ H Q → t' σ H Q) → L2.PC C op a b t := fun h k => ⟨fun pins s σ H Q I q => h.run pins s σ H Q I (k σ H Q q)⟩
  cases n with
  | false =>
    refine im (L2.pc_din (by omega) ha hb) fun σ H Q ⟨O, ρ, e, st, R, h⟩ => ⟨O, ρ, e, st, R, End.bd R.S h fun x st1 ρ1 H1 v _ s1 S1 r1 h1 => ⟨O, ρ1, e, st1, R.go s1 S1, End.bd S1 h1 fun y st2 ρ2 H2 u _ s2 S2 r2 h2 => ?_⟩⟩
    cases q : dinV false x y st2 with
    | none => rw [q] at h2; exact h2.elim
    | some w =>
      rw [q] at h2
      obtain ⟨l, z, e1, e2, e3⟩ := din_ok S2 q r2 (Rep.stp S1 s2 r1)
      refine ⟨l, z, e1, e2, h2.at S2 ?_⟩
      rw [e3]
      cases z <;> exact RepP.bl _
  | true =>
    refine im (L2.pc_dnotin (by omega) ha hb) fun σ H Q ⟨O, ρ, e, st, R, h⟩ => ⟨O, ρ, e, st, R, End.bd R.S h fun x st1 ρ1 H1 v _ s1 S1 r1 h1 => ⟨O, ρ1, e, st1, R.go s1 S1, End.bd S1 h1 fun y st2 ρ2 H2 u _ s2 S2 r2 h2 => ?_⟩⟩
    cases q : dinV true x y st2 with
    | none => rw [q] at h2; exact h2.elim
    | some w =>
      rw [q] at h2
      obtain ⟨l, z, e1, e2, e3⟩ := din_ok S2 q r2 (Rep.stp S1 s2 r1)
      refine ⟨l, z, e1, e2, h2.at S2 ?_⟩
      rw [e3]
      cases z <;> exact RepP.bl _
theorem xDin (hu : C.A.units + 65 < cLine) {n : Bool} (hm : behindInMarks (if n then .NotIn else .In) b = false) (ha : PE C a (TrE C.K W fa)) (hb : PE C b (TrE C.K W fb)) : PE C (.Compare a [if n then .NotIn else .In] [b] pos) (TrE C.K W fun e s => (fa e s).bd fun x s => (fb e s).bd fun o s => R.of ((dinV n x o s).map fun b => .p (.bool b)) s) :=
  L2.pe_cmp (cDin hu ha hb) hm
theorem tDin (hu : C.A.units + 65 < cLine) {n : Bool} (hm : behindInMarks (if n then .NotIn else .In) b = false) (ha : PE C a (TrE C.K W fa)) (hb : PE C b (TrE C.K W fb)) : PT C (.Compare a [if n then .NotIn else .In] [b] pos) (TrT C.K W fun e s => tst ((fa e s).bd fun x s => (fb e s).bd fun o s => R.of ((dinV n x o s).map fun b => .p (.bool b)) s)) :=
  imT (L2.pt_cmp (cDin hu ha hb) hm) fun σ H Q ⟨O, ρ, e, st, R, h⟩ => by
    simp only [tst] at h
    refine ⟨O, ρ, e, st, R, End.bd R.S h fun x st1 ρ1 H1 v hx s1 S1 r1 h1 => ?_⟩
    have hb : ∃ c, x = .p (.bool c) := by
      dsimp only at hx
      cases q1 : fa e st with
      | ok v2 st2 =>
        rw [q1] at hx
        have hx2 : (fb e st2).bd (fun o s => Mi.R.of ((dinV n v2 o s).map fun b => .p (.bool b)) s) = .ok x st1 := hx
        cases q2 : fb e st2 with
        | ok v3 st3 =>
          rw [q2] at hx2
          have hx3 : Mi.R.of ((dinV n v2 v3 st3).map fun b => Vl.p (.bool b)) st3 = .ok x st1 := hx2
          cases q3 : dinV n v2 v3 st3 with
          | some c => rw [q3] at hx3; cases hx3; exact ⟨c, rfl⟩
          | none => rw [q3] at hx3; cases hx3
        | ex c d s => rw [q2] at hx2; cases hx2
        | no => rw [q2] at hx2; cases hx2
      | ex c d s => rw [q1] at hx; cases hx
      | no => rw [q1] at hx; cases hx
    obtain ⟨c, rfl⟩ := hb
    exact ⟨c, RepP.bl_inv r1, h1.at S1 rfl⟩
end
end Mi
end
section
set_option Elab.async false
set_option linter.all false
set_option maxRecDepth 100000
set_option maxHeartbeats 1000000
/-! D2: dicts: stores, methods, written ones, walks. -/
namespace Mi
open PySem PySem.Spec PyProof.Rows
open L2 (V HO Hp upd upd_same upd_ne SqL SqT Rd Cx Inv PE PT PA PS PSs PG PGs PI TE TT TA TS TG TGs TI It VK XK Ends RelV Vals ne_of_none OpR R2 EP CallR UnR IxR SlR TruR Gl Vis Loc Itl Itt Itr wipe Key valV putK DGet DPut mixKind)
section
variable {C : Cx} {W : Str → Option Addr → Hp → Prop} {a b c : Expr} {es : List Expr} {fa fb fc : En → Sr → R Vl} {fs : En → Sr → R (List Vl)} {pos : Pos} {tg : Expr}
theorem sDstS {q : Pos} (hu : C.A.units + 65 < cLine) (ha : PE C a (TrE C.K W fa)) (hb : PE C b (TrE C.K W fb)) (hc : PE C c (TrE C.K W fc)) (hs : swapsWith c (some (.Subscript a b q)) pos.line C.env = pure false) :
    PS C (.Assign [.Subscript a b q] c pos) (TrS C.K W fun e s => (fc e s).bx fun v s => (fa e s).bx fun o s => (fb e s).bx fun i s => match dputV o i v s with
      | some s => .nx e s
      | none => .no) :=
  imS (L2.ps_dput (by omega) ha hb hc hs) fun D σ H ⟨O, ρ, e, st, R, h⟩ => ⟨O, ρ, e, st, R, End.bx R.S h fun w st1 ρ1 H1 v _ s1 S1 r1 h1 => ⟨O, ρ1, e, st1, R.go s1 S1, End.bx S1 h1 fun x st2 ρ2 H2 u _ s2 S2 r2 h2 => ⟨O, ρ2, e, st2, (R.go s1 S1).go s2 S2, End.bx S2 h2 fun y st3 ρ3 H3 z _ s3 S3 r3 h3 => by
    cases q : dputV x y w st3 with
    | none => rw [q] at h3; exact h3.elim
    | some st' =>
      rw [q] at h3
      obtain ⟨l, ks, kk, e1, e2, e3, e4, t1, t2, _⟩ := dput_ok S3 q (Rep.stp S2 s3 r2) r3 (Rep.stp S2 s3 (Rep.stp S1 s2 r1))
      exact ⟨l, _, e1, .inl ⟨ks, kk, e3, e2, e4, rfl⟩, h3 ρ3 σ _ t1 ⟨t2, ((((R.go s1 S1).go s2 S2).go s3 S3).go t1 t2).E⟩⟩⟩⟩⟩
theorem sDagS {T1 : T} {o : Operator} {q : Pos} (hu : C.A.units + 65 < cLine) (ha : PE C a (TrE C.K W fa)) (hb : PE C (toE T1) (TrE C.K W fb)) (hc : PE C c (TrE C.K W fc))
    (hs : ∀ ov iv new, augStore (toE T1) ov iv new = (do holding [new, ov, iv] (setItem ov iv new); release [new, ov, iv] []; pure .next)) :
    PS C (.AugAssign (.Subscript a (toE T1) q) o c pos) (TrS C.K W fun e s => (fa e s).bx fun l s => (fb e s).bx fun i s => match dixV l i s with
      | some v => (fc e s).bx fun w s => match agV o (.p v) w s with
        | some c => match dputV l i (.p c) s with
          | some s => .nx e s
          | none => .no
        | none => .no
      | none => .no) :=
  imS (L2.ps_daug (by omega) ha hb hc (fun pins s σ H x y v u Q I r1 r2 h => opAug o pins s σ H x y v u Q I r1 r2 h) hs) fun D σ H ⟨O, ρ, e, st, R, h⟩ => ⟨O, ρ, e, st, R, End.bx R.S h fun x st1 ρ1 H1 v _ s1 S1 r1 h1 => ⟨O, ρ1, e, st1, R.go s1 S1, End.bx S1 h1 fun y st2 ρ2 H2 u _ s2 S2 r2 h2 => by
    cases q : dixV x y st2 with
    | none => rw [q] at h2; exact h2.elim
    | some w =>
      rw [q] at h2
      dsimp only at h2
      have r1' := Rep.stp S1 s2 r1
      obtain ⟨l, z, e1, e2, e3⟩ := dix_ok S2 q r1' r2
      refine ⟨l, z, e1, e2, O, ρ2, e, st2, (R.go s1 S1).go s2 S2, End.bx S2 h2 fun y3 st3 ρ3 H3 u3 _ s3 S3 r3 h3 => ?_⟩
      cases q1 : agV o (.p w) y3 st3 with
      | none => rw [q1] at h3; exact h3.elim
      | some cc =>
        rw [q1] at h3
        dsimp only at h3
        cases q2 : dputV x y (.p cc) st3 with
        | none => rw [q2] at h3; exact h3.elim
        | some st4 =>
          rw [q2] at h3
          unfold agV at q1
          split at q1
          · rename_i a' b' w' q4
            cases w'
            refine ⟨Mt O ρ3 st3, _, b', cc, .of (RepP.stp S2 s3 e3), dd_rd S3 r3 q4, q1, fun v5 hv => ?_⟩
            obtain ⟨l', ks, kk, e6, e7, e8, e9, t1, t2, _⟩ := dput_ok (v := .p cc) (u := v5) S3 q2 (Rep.stp S2 s3 r1') (Rep.stp S2 s3 r2) (hv _ _)
            have : l' = l := by rw [e1] at e6; cases e6; rfl
            subst this
            exact ⟨_, .inl ⟨ks, kk, e8, e7, e9, rfl⟩, h3 ρ3 σ _ t1 ⟨t2, ((((R.go s1 S1).go s2 S2).go s3 S3).go t1 t2).E⟩⟩
          · cases q1⟩⟩
/-! methods -/
theorem mSd : L2.MtR C "dict.setdefault" L2.rSetd := by
  intro pins s σ H x vs w us Q I rx rv h
  obtain ⟨a, kvs, k, v, el, rfl, ea, hl, w1, w2⟩ := h
  cases el
  cases (show w = Value.ref a from rx)
  cases rv with
  | cons ry rv =>
    cases rv with
    | cons rd rv =>
      cases rv
      obtain ⟨z, hd, vs0, rel, dd⟩ := L2.dk_of I.hok ea
      have hz : vs0.length ≤ sizeLine := by rw [← rel.length]; exact z
      refine call_meetsIn PySem.F.slot_dict_setdefault dd.typeIs PySem.F.entry_dict_setdefault (PySem.F.args_dict_setdefault_3 _ _ _) (kt_meets_setdefault (mixKind C.prog C.w) _ (L2.kV_is ry) hd _) ⟨vs0, dd, hz, fun u hu => ?_, fun hn h' dd' hs => ?_⟩
      · have rr := rel.val k
        rw [hu] at rr
        cases hv : valV kvs k with
        | none => rw [hv] at rr; exact False.elim rr
        | some x =>
          rw [hv] at rr
          exact (⟨x, H, I.tok _, rr, w1 x hv⟩ : EP C pins σ Q u _)
      · have rr := rel.val k
        rw [hn] at rr
        cases hv : valV kvs k with
        | some x => rw [hv] at rr; exact False.elim rr
        | none =>
          have hl2 : (putK kvs k v).length ≤ sizeLine := by have := L2.length_putK kvs k v; omega
          exact (⟨v, _, L2.d_write (t' := s.toks + 1) I (by rw [ea]; exact True.intro) hs (let ⟨q, _, _, hq, _⟩ := dd'; ⟨q, hq⟩) (L2.dk_new hl2 hd (rel.put k rd) dd'), rd, w2 hv⟩ : EP C pins σ Q _ _)
def rGt : V → List V → Hp → VK → Prop := fun x vs H Q => ∃ (a : Addr) (y : V) (o : Option V), x = .ref a ∧ DGet H a y o ∧ ((vs = [y] ∧ Q (o.getD .non) H) ∨ ∃ d, vs = [y, d] ∧ Q (o.getD d) H)
theorem mGt (hu : C.A.units + 65 < cLine) : L2.MtR C "dict.get" rGt := by
  intro pins s σ H x vs w us Q I rx rv h
  obtain ⟨a, y, o, rfl, g, ⟨rfl, q⟩ | ⟨d, rfl, q⟩⟩ := h
  · cases (show w = Value.ref a from rx)
    cases rv with
    | cons ry rv =>
      cases rv
      exact L2.d_get1 (by omega) I g ry fun w' s3 I3 rw' => ⟨_, H, I3, rw', q⟩
  · cases (show w = Value.ref a from rx)
    cases rv with
    | cons ry rv =>
      cases rv with
      | cons rd rv =>
        cases rv
        exact L2.d_get2 (by omega) I g ry rd fun w' s3 I3 rw' => ⟨_, H, I3, rw', q⟩
theorem dat0_ty {O : Addr → Prop} {ρ : Nat → Addr} {st : Sr} {H : Hp} {o : Vl} {v : V} (S : RelS C.K O ρ H st) (h : dat0 o st = true) (r : Rep C.K O ρ st H o v) : L2.tyV C.K "dict" v H := by
  unfold dat0 at h
  split at h
  · rename_i n
    obtain ⟨hn, rfl⟩ := r
    split at h
    · rename_i kvs q
      obtain ⟨w, f1, ks, f2, f3⟩ := S.ob n _ q
      rcases f2 with ⟨_, rfl⟩ | ⟨z, _⟩
      · exact .inr (.inr (.inl ⟨rfl, .inl ⟨ks, f1⟩⟩))
      · exact absurd rfl z
    · cases h
  · cases h
end
end Mi
end
section
set_option Elab.async false
set_option linter.all false
set_option maxRecDepth 100000
set_option maxHeartbeats 2000000
/-! D3: dicts: methods, written ones, comprehensions, walks. -/
namespace Mi
open PySem
open L2 (V HO Hp upd upd_same upd_ne SqL SqT Rd Cx Inv PE PT PA PS PSs PG PGs PI TE TT TA TS TG TGs TI It VK XK Ends RelV Vals ne_of_none OpR R2 EP CallR UnR IxR SlR TruR Gl Vis Loc Itl Itt Itr wipe Key valV putK DGet DPut mixKind)
section
variable {C : Cx} {W : Str → Option Addr → Hp → Prop} {a b c : Expr} {es : List Expr} {fa fb fc : En → Sr → R Vl} {fs : En → Sr → R (List Vl)} {pos : Pos} {tg : Expr}
theorem dget_at {H : Hp} {l : Addr} {ks : List (Key × V)} {kk : Key} {r : Option V} (h : H l = some (.dK ks)) (g : DGet H l (L2.kV kk) r) : r = valV ks kk := by
  rcases g with ⟨ls, k, e, ey, q⟩ | ⟨ls, k, b, e, ey, _⟩
  · have := L2.kV_inj ey
    subst this
    rcases e with e | ⟨o, e⟩ <;> (rw [h] at e; cases e)
    exact q
  · cases kk <;> cases ey
theorem sd_ok {O : Addr → Prop} {ρ : Nat → Addr} {st : Sr} {H : Hp} {o k v : Vl} {x ky vy : V} {Q : VK} (S : RelS C.K O ρ H st) (ro : Rep C.K O ρ st H o x) (rk : Rep C.K O ρ st H k ky) (rv : Rep C.K O ρ st H v vy) (h : End C.K W O (RpV C.K O) ρ st H (sdV o k v st) Q) : L2.rSetd x [ky, vy] H Q := by
  unfold sdV at h
  cases v with
  | r n => exact h.elim
  | p v =>
    dsimp only at h
    cases q : dputV o k (.p v) st with
    | none => rw [q] at h; exact h.elim
    | some s' =>
      rw [q] at h
      dsimp only at h
      obtain ⟨l, ks, kk, rfl, rfl, e3, e4, t1, t2, e5⟩ := dput_ok S q ro rk rv
      refine ⟨l, ks, kk, vy, rfl, rfl, e3, e4, fun u hu => ?_, fun hn => ?_⟩
      · cases qd : dixV o k st with
        | none => rw [e5 qd] at hu; cases hu
        | some w =>
          rw [qd] at h
          obtain ⟨l', z, e6, e7, e8⟩ := dix_ok S qd ro rk
          cases e6
          have := dget_at e3 e7
          rw [hu] at this
          cases this
          exact h.at S e8
      · cases qd : dixV o k st with
        | none =>
          rw [qd] at h
          exact h ρ _ _ t1 t2 (RepP.stp S t1 rv)
        | some w =>
          obtain ⟨l', z, e6, e7, e8⟩ := dix_ok S qd ro rk
          cases e6
          have := dget_at e3 e7
          rw [hn] at this
          cases this
theorem gt_ok {O : Addr → Prop} {ρ : Nat → Addr} {st : Sr} {H : Hp} {o k d : Vl} {x ky dy : V} {Q : VK} (S : RelS C.K O ρ H st) (ro : Rep C.K O ρ st H o x) (rk : Rep C.K O ρ st H k ky) (rd : Rep C.K O ρ st H d dy) (h : End C.K W O (RpV C.K O) ρ st H (gtV o k d st) Q) : ∃ l w, x = .ref l ∧ DGet H l ky w ∧ Q (w.getD dy) H := by
  unfold gtV at h
  split at h
  · rename_i kvs kp q1 q2
    obtain ⟨l, ks, rfl, d1, d2⟩ := dat_ok S q1 ro
    obtain ⟨kk, rfl, rfl⟩ := key_ex q2
    have ey := key_rep rk
    subst ey
    refine ⟨l, valV ks kk, rfl, .inl ⟨ks, kk, d1, rfl, rfl⟩, ?_⟩
    rcases d2.get kk with ⟨e1, e2⟩ | ⟨d, u, e1, e2, r⟩
    · rw [e1] at h
      rw [e2]
      exact h.at S rd
    · rw [e1] at h
      rw [e2]
      exact h.at S r
  · exact h.elim
theorem xDme1 {T0 T1 : T} {p0 : Pos} (hu : C.A.units + 65 < cLine) (hb : ∀ (nm : Str), attributeBase (toE T0) nm C.env (eval (toE T0) C.env) = eval (toE T0) C.env) (hl : (p0.endLine == pos.line) = true) (ho : PE C (toE T0) (TrE C.K W fa)) (hx : PA C [toE T1] (TrA C.K W fs)) :
    PE C (.Call (.Attribute (toE T0) (meN .gt) p0) [toE T1] [] pos) (TrE C.K W fun e s => (fa e s).bd fun o s => if dat0 o s = true then (fs e s).bd fun vs s => dmeV .gt o vs s else .no) :=
  imE (L2.pe_bm PySem.F.plainAttrs_dict PySem.F.slot_dict_get PySem.F.type_dict_get (mGt hu) ho hx (hb _) (by rw [star_cons]; rfl) hl (star_cons _ _ _)) fun σ H Q ⟨O, ρ, e, st, R, h⟩ =>
    ⟨O, ρ, e, st, R, End.bd R.S h fun x st1 ρ1 H1 v _ s1 S1 r1 h1 => by
      split at h1
      · rename_i hx
        refine ⟨dat0_ty S1 hx r1, O, ρ1, e, st1, R.go s1 S1, End.bd S1 h1 fun ys st2 ρ2 H2 us _ s2 S2 r2 h2 => ?_⟩
        have ro := Rep.stp S1 s2 r1
        cases r2 with
        | nil => exact h2.elim
        | @cons k _ ky _ rk rs =>
          cases rs with
          | nil =>
            obtain ⟨l, w, e1, e2, e3⟩ := gt_ok S2 ro rk (show Rep C.K O ρ2 st2 H2 (.p .none) .non from RepP.non) h2
            exact ⟨l, ky, w, e1, e2, .inl ⟨rfl, e3⟩⟩
          | @cons d _ dy _ rd rs =>
            cases rs with
            | nil =>
              obtain ⟨l, w, e1, e2, e3⟩ := gt_ok S2 ro rk rd h2
              exact ⟨l, ky, w, e1, e2, .inr ⟨dy, rfl, e3⟩⟩
            | cons _ _ => exact h2.elim
      · exact h1.elim⟩
theorem xDme2 {T0 T1 T2 : T} {f : Me} {p0 : Pos} (hf : f = .sd ∨ f = .gt) (hu : C.A.units + 65 < cLine) (hb : ∀ (nm : Str), attributeBase (toE T0) nm C.env (eval (toE T0) C.env) = eval (toE T0) C.env) (hl : (p0.endLine == pos.line) = true) (ho : PE C (toE T0) (TrE C.K W fa)) (hx : PA C [toE T1, toE T2] (TrA C.K W fs)) :
    PE C (.Call (.Attribute (toE T0) (meN f) p0) [toE T1, toE T2] [] pos) (TrE C.K W fun e s => (fa e s).bd fun o s => if dat0 o s = true then (fs e s).bd fun vs s => dmeV f o vs s else .no) := by
  rcases hf with rfl | rfl
  · exact imE (L2.pe_bm PySem.F.plainAttrs_dict PySem.F.slot_dict_setdefault PySem.F.type_dict_setdefault mSd ho hx (hb _) (by rw [star_cons, star_cons]; rfl) hl (star_cons _ _ _) (by rw [star_cons]; rfl)) fun σ H Q ⟨O, ρ, e, st, R, h⟩ =>
      ⟨O, ρ, e, st, R, End.bd R.S h fun x st1 ρ1 H1 v _ s1 S1 r1 h1 => by
        split at h1
        · rename_i hx
          refine ⟨dat0_ty S1 hx r1, O, ρ1, e, st1, R.go s1 S1, End.bd S1 h1 fun ys st2 ρ2 H2 us _ s2 S2 r2 h2 => ?_⟩
          have ro := Rep.stp S1 s2 r1
          cases r2 with
          | nil => exact h2.elim
          | @cons k _ ky _ rk rs =>
            cases rs with
            | nil => exact h2.elim
            | @cons d _ dy _ rd rs =>
              cases rs with
              | nil => exact sd_ok S2 ro rk rd h2
              | cons _ _ => exact h2.elim
        · exact h1.elim⟩
  · exact imE (L2.pe_bm PySem.F.plainAttrs_dict PySem.F.slot_dict_get PySem.F.type_dict_get (mGt hu) ho hx (hb _) (by rw [star_cons, star_cons]; rfl) hl (star_cons _ _ _) (by rw [star_cons]; rfl)) fun σ H Q ⟨O, ρ, e, st, R, h⟩ =>
      ⟨O, ρ, e, st, R, End.bd R.S h fun x st1 ρ1 H1 v _ s1 S1 r1 h1 => by
        split at h1
        · rename_i hx
          refine ⟨dat0_ty S1 hx r1, O, ρ1, e, st1, R.go s1 S1, End.bd S1 h1 fun ys st2 ρ2 H2 us _ s2 S2 r2 h2 => ?_⟩
          have ro := Rep.stp S1 s2 r1
          cases r2 with
          | nil => exact h2.elim
          | @cons k _ ky _ rk rs =>
            cases rs with
            | nil =>
              obtain ⟨l, w, e1, e2, e3⟩ := gt_ok S2 ro rk (show Rep C.K O ρ2 st2 H2 (.p .none) .non from RepP.non) h2
              exact ⟨l, ky, w, e1, e2, .inl ⟨rfl, e3⟩⟩
            | @cons d _ dy _ rd rs =>
              cases rs with
              | nil =>
                obtain ⟨l, w, e1, e2, e3⟩ := gt_ok S2 ro rk rd h2
                exact ⟨l, ky, w, e1, e2, .inr ⟨dy, rfl, e3⟩⟩
              | cons _ _ => exact h2.elim
        · exact h1.elim⟩
/-! written ones -/
theorem xD0 : PE C (.Dict [] [] pos) (TrE C.K W eD0) :=
  imE L2.pe_dnewK fun σ H Q ⟨O, ρ, e, st, R, h⟩ p hp => h (ext ρ st.length p) _ (.ref p) (Stp.push hp) (R.S.pushD hp .nil) ⟨by simp, by rw [ext_same]⟩
theorem xD1 (ha : PE C a (TrE C.K W fa)) (hb : PE C b (TrE C.K W fb)) : PE C (.Dict [some a] [b] pos) (TrE C.K W fun e s => match fa e s with
  | .ok x s => match fb e s with
    | .ok y s => mkD1 x y s
    | _ => .no
  | _ => .no) :=
  imE (L2.pe_disp (L2.pps_cons ha hb L2.pps_nil) rfl rfl (by simp) (by simp)) fun σ H Q ⟨O, ρ, e, st, R, h⟩ p hp => by
    dsimp only at h
    have wid : Wid O (fun a => O a ∨ a = p) H := fun a q => q.elim .inl fun q => .inr (q ▸ hp)
    have S0 := R.S.newOwn (ho := .dK []) hp
    have E0 := RelE.newOwn (ho := .dK []) R.S R.E hp
    have Sf : RelS C.K (fun _ => False) ρ H st := R.S.less fun _ q => q.elim
    have s0 : Stp ρ st H ρ st (upd H p (.dK [])) := Stp.new R.S hp
    have nl : ∀ {ρ : Nat → Addr} {st : Sr} {H : Hp}, RelS C.K (fun a => O a ∨ a = p) ρ H st → ¬ live ρ st p := fun S ⟨n, o, q1, q2, q3⟩ => S.out n (List.getElem?_eq_some_iff.mp q1).1 (.inr q3)
    cases q1 : fa e st with
    | ok x st1 =>
      rw [q1] at h
      dsimp only at h
      cases q2 : fb e st1 with
      | ok y st2 =>
        rw [q2] at h
        dsimp only at h
        refine ⟨fun a => O a ∨ a = p, ρ, e, st, ⟨S0, E0⟩, ?_⟩
        rw [q1]
        intro ρ1 H1 v1 s1 S1 r1
        refine ⟨fun a => O a ∨ a = p, ρ1, e, st1, ⟨S1, E0.stp S0 s1⟩, ?_⟩
        rw [q2]
        intro ρ2 H2 v2 s2 S2 r2
        have h1p : H1 p = some (.dK []) := s1.kp p _ upd_same (nl S0) fun ps z => nomatch z
        have h2p : H2 p = some (.dK []) := s2.kp p _ h1p (nl S1) fun ps z => nomatch z
        unfold mkD1 at h
        split at h
        · rename_i k v qk
          obtain ⟨kk, rfl, rfl⟩ := key_ex qk
          have ek : v1 = L2.kV kk := key_rep r1
          subst ek
          refine ⟨h2p, [(kk, v2)], rfl, by simp, ?_⟩
          have S3 : RelS C.K (fun a => O a ∨ a = p) ρ2 (upd H2 p (.dK [(kk, v2)])) st2 := S2.ownO (.inr rfl) h2p trivial
          have kr : KReq C.K (Mt (fun a => O a ∨ a = p) ρ2 st2) (upd H2 p (.dK [(kk, v2)])) [(keyV kk, v)] [(kk, v2)] := .cons rfl (RepP.ownO (.inr rfl) h2p trivial r2) .nil
          have nO : ¬ O p := fun q => R.S.al p q hp
          have A := adoptD S3 (O := O) (fun _ q => .inl q) (fun _ q => q) (.inr rfl) nO upd_same kr
          have t : Stp ρ st H ρ2 st2 H2 := s0.trans Sf (S0.less fun _ z => z.elim) (s1.trans (S0.less fun _ (z : False) => z.elim) (S1.less fun _ (z : False) => z.elim) s2)
          exact h _ _ _ ((t.own hp).adopt hp) A ⟨by simp, by rw [ext_same]⟩
        · exact h.elim
      | ex c x s => rw [q2] at h; exact h.elim
      | no => rw [q2] at h; exact h.elim
    | ex c x s => rw [q1] at h; exact h.elim
    | no => rw [q1] at h; exact h.elim
end
end Mi
end
section
set_option Elab.async false
set_option linter.all false
set_option maxRecDepth 100000
set_option maxHeartbeats 2000000
/-! X3: an exception made as a value; its value read. -/
namespace Mi
open PySem
open L2 (V HO Hp upd upd_same upd_ne Cx Inv PE PT PA PS PSs TE TT TA TS VK XK RelV RelO Vals Room Env0 Un HOk ObjOk Mod CE CR FnOk OexC exo exd frs ne_of_none EP CallR Gl)
/-- no exception leaves -/
def CXn : L2.CXT := fun _ _ _ _ _ _ => False
section
variable {X : Cx} {pins : List (Addr × Obj)} {σ : Sg} {s : Shared} {H : Hp} {a Ca CEa fI t1 dx : Addr} {c : Str} {e : Expr} {te : TE} {p pos : Pos} {k : Nat} {fd : FuncData}
theorem exq_weak (I : Inv X pins σ H s) (h : H a = some (exq a Ca (some dx) t1)) : Inv X pins σ (upd H a (exw a Ca dx (some t1))) s := by
  have ho := exq_at I.hok h
  exact I.write (h' := s.heap) (t' := s.toks) (x := a) (e := a) (by rw [h]; exact trivial) (.inl rfl) (fun _ _ _ z => z) ⟨_, ho⟩
    ⟨⟨_, _, ho, rfl, rfl, rfl, fun t e => by cases e; rfl⟩, ⟨_, ho⟩, fun _ _ ⟨oe, vs, z, r⟩ k => ⟨oe, vs, k _ z, r⟩⟩
def tMkx (Ca : Addr) (te : TE) : TE := fun σ H Q => te σ H fun v H1 => ∀ a t1 dx, H1 a = none → H1 t1 = none → H1 dx = none → t1 ≠ a → dx ≠ a → dx ≠ t1 →
  Q (.ref a) (upd (upd (upd H1 a (exw a Ca dx (some t1))) t1 (.tup [v])) dx (.xd [("value", v)]))
theorem pe_mkx {T0 : T} (G : ErrF X.K CEa fI c Ca) (F1 : FnOk X.prog X.w X.K X.mg X.base CXn k fI fd ["self", "value"] (iniSp X.K CEa)) (hr : Room (k + 1) X.A) (hb : L2.Binds X.K fd ["self", "value"] []) (hg : Gl X c) (hm : X.mg c = some (.ref Ca)) (he : PE X (toE T0) te)
    (hdb : (c == ("__debug__" : Str)) = false) : PE X (.Call (.Name c p) [toE T0] [] pos) (tMkx Ca te) := by
  refine ⟨fun pins s σ H Q I h => ?_⟩
  obtain ⟨nm, q, N, bs, bm, sn, sub, ab, col, dd, k0, k1, k2, k3, k5, hC, hbm⟩ := G.er.oex.cls
  refine wpAny_Call_Name_kw (L2.ld_glob I hg hm ?_ hdb)
  have ha : PA X [toE T0] (L2.tCons te L2.tNil) := L2.pa_cons he L2.pa_nil (star_cons _ _ _)
  refine PySem.W.callWith_K (h₀ := X.base) I.ok.mod.kin G.er.oex.kC (L2.thn (ha.run pos pins s σ H (fun vs H1 => match vs with
      | [v] => ∀ a t1 dx, H1 a = none → H1 t1 = none → H1 dx = none → t1 ≠ a → dx ≠ a → dx ≠ t1 → Q (.ref a) (upd (upd (upd H1 a (exw a Ca dx (some t1))) t1 (.tup [v])) dx (.xd [("value", v)]))
      | _ => False) I h) fun us s1 ⟨vs, H1, I1, r1, q1⟩ => ⟨I1.kIn, ?_⟩) (star_cons _ _ _) rfl
  · match vs, q1, r1 with
    | [v], q1, r1 =>
      obtain ⟨u, rfl, ru⟩ := L2.vals1 r1
      show wpAny _ _ (call (.ref Ca) [u]) _ _ _
      obtain ⟨hp, g, dr, tk, os⟩ := s1
      generalize hN : hp.objs.size + 1 = N1
      have up : hp.objs.size ≤ N1 := by omega
      have free1 : H1 N1 = none := I1.hok.fresh up
      have keep2 : ∀ b o, hp.get? b = some o → ((hp.push (PySem.W.kdv_tup [u])).push (PySem.HandSPX.excO Ca hp.objs.size)).get? b = some o := fun b o z => Heap.get?_push_of_some _ (Heap.get?_push_of_some _ z)
      have new2 : ((hp.push (PySem.W.kdv_tup [u])).push (PySem.HandSPX.excO Ca hp.objs.size)).get? N1 = some (PySem.HandSPX.excO Ca hp.objs.size) := by rw [← hN]; heap_get
      have J : Inv X pins σ (upd H1 N1 (exo N1 Ca none)) ⟨(hp.push (PySem.W.kdv_tup [u])).push (PySem.HandSPX.excO Ca hp.objs.size), g, dr, tk, os⟩ := I1.laid (t' := tk) keep2 up (L2.exo_ok new2)
      have two : Vals [V.ref N1, v] [Value.ref N1, u] := .cons rfl (.cons ru .nil)
      have sz1 : [u].length ≤ sizeLine := by show 1 ≤ sizeLine; rw [sizeLine_eq]; omega
      have spec : iniSp X.K CEa [V.ref N1, v] (upd H1 N1 (exo N1 Ca none)) (fun w H2 => w = .non ∧ ∃ t1 dx, H1 t1 = none ∧ H1 dx = none ∧ t1 ≠ N1 ∧ dx ≠ N1 ∧ dx ≠ t1 ∧ H2 = upd (upd (upd H1 t1 (.tup [v])) N1 (exq N1 Ca (some dx) t1)) dx (.xd [("value", v)])) (fun _ _ _ => False) := by
        refine ⟨N1, Ca, v, rfl, G.er, upd_same, fun t1 dx n1 n2 q1 q2 q3 => ⟨rfl, t1, dx, ?_, ?_, q1, q2, q3, ?_⟩⟩
        · rw [upd_ne q1] at n1; exact n1
        · rw [upd_ne q2] at n2; exact n2
        · funext b
          by_cases b1 : b = dx
          · rw [b1, upd_same, upd_same]
          · rw [upd_ne b1, upd_ne b1]
            by_cases b2 : b = N1
            · rw [b2, upd_same, upd_same]
            · rw [upd_ne b2, upd_ne b2]
              by_cases b3 : b = t1
              · rw [b3, upd_same, upd_same]
              · rw [upd_ne b3, upd_ne b3, upd_ne b2]
      refine wpAny_call (PySem.HandSPX.call_own F.excBase_ValueError (fun Y => PySem.HandSPX.refsVE_contains Y bm hbm) (I1.kIn _ _ hC) (PySem.W.looks_findIn I1.kIn G.init) (fun self => PySem.W.bind_fn I1.kIn self G.tI) sz1
        (codeAny_mono (F1.run _ X.stack _ _ ⟨[Value.ref (hp.objs.size + 1), u], []⟩ [Value.ref N1, u] _ _ (fun _ _ _ => False) (hr.make Ca [u] []) (J.env0.make Ca [u] []) (by rw [hN]; exact hb _ [Value.ref N1, u] J.kIn rfl) two spec) fun r s' hq => ?_))
      cases r with
      | error er => exact hq.elim
      | ok fl =>
        cases fl with
        | next => exact hq.elim
        | brk => exact hq.elim
        | cont => exact hq.elim
        | ret w =>
          obtain ⟨x, H2, os2, bare2, un2, hok2, rv, rfl, t1, dx, n1, n2, d1, d2, d3, eH⟩ := hq
          have J2 : Inv X pins σ H2 s' := J.call' (ch := []) os2 un2 hok2 bare2 (fun b z => absurd z (by simp))
          have ea : H2 N1 = some (exq N1 Ca (some dx) t1) := by rw [eH, upd_ne (Ne.symm d2), upd_same]
          have J3 := exq_weak J2 ea
          have e3 : upd H2 N1 (exw N1 Ca dx (some t1)) = upd (upd (upd H1 N1 (exw N1 Ca dx (some t1))) t1 (.tup [v])) dx (.xd [("value", v)]) := by
            rw [eH]
            funext b
            by_cases b2 : b = N1
            · rw [b2, upd_same, upd_ne (Ne.symm d2), upd_ne (Ne.symm d1), upd_same]
            · rw [upd_ne b2]
              by_cases b1 : b = dx
              · rw [b1, upd_same, upd_same]
              · rw [upd_ne b1, upd_ne b1, upd_ne b2]
                by_cases b3 : b = t1
                · rw [b3, upd_same, upd_same]
                · rw [upd_ne b3, upd_ne b3, upd_ne b2]
          rw [e3] at J3
          exact ⟨rv, .ref N1, _, J3, by rw [hN]; rfl, q1 N1 t1 dx free1 n1 n2 d1 d2 d3⟩
end
/-! ### by data -/
theorem keyV_ne : ∀ {k : L2.Key}, PyData.none = keyV k → False
  | .inl _, h => by cases h
  | .inr _, h => by cases h
section
variable {C : Cx} {W : Str → Option Addr → Hp → Prop} {Ca CEa fI : Addr} {c : Str} {p p0 p1 pos : Pos} {k : Nat} {fd : FuncData} {T0 : T} {fa : En → Sr → R Vl}
theorem new3 {K : Fg} {O : Addr → Prop} {ρ : Nat → Addr} {st : Sr} {H : Hp} {a t1 dx : Addr} {x : P} {v : V} (S : RelS K O ρ H st) (hc : ErrC K c Ca) (n1 : H a = none) (n2 : H t1 = none) (n3 : H dx = none) (d1 : t1 ≠ a) (d2 : dx ≠ a) (d3 : dx ≠ t1) (r : RepP K (Mt O ρ st) H x v) :
    Stp ρ st H ρ st (upd (upd (upd H a (exw a Ca dx (some t1))) t1 (.tup [v])) dx (.xd [("value", v)])) ∧ RelS K O ρ (upd (upd (upd H a (exw a Ca dx (some t1))) t1 (.tup [v])) dx (.xd [("value", v)])) st ∧
    RepP K (Mt O ρ st) (upd (upd (upd H a (exw a Ca dx (some t1))) t1 (.tup [v])) dx (.xd [("value", v)])) (exP c x []) (.ref a) := by
  have m2 : upd H a (exw a Ca dx (some t1)) t1 = none := by rw [upd_ne d1]; exact n2
  have m3 : upd (upd H a (exw a Ca dx (some t1))) t1 (.tup [v]) dx = none := by rw [upd_ne d3, upd_ne d2]; exact n3
  have S1 := S.new (o := exw a Ca dx (some t1)) n1
  have S2 := S1.new (o := .tup [v]) m2
  have S3 := S2.new (o := .xd [("value", v)]) m3
  have s1 : Stp ρ st H ρ st _ := Stp.new S (o := exw a Ca dx (some t1)) n1
  have s2 : Stp ρ st _ ρ st _ := Stp.new S1 (o := .tup [v]) m2
  have s3 : Stp ρ st _ ρ st _ := Stp.new S2 (o := .xd [("value", v)]) m3
  have s13 := (s1.trans S S1 s2).trans S S2 s3
  refine ⟨s13, S3, .exc (a := a) (t1 := some t1) (fs := [("value", v)]) hc ?_ upd_same (by simp [List.lookup]) (r.stp S s13) fun _ => ⟨t1, rfl, ?_⟩⟩
  · rw [upd_ne (Ne.symm d2), upd_ne (Ne.symm d1), upd_same]
  · rw [upd_ne (Ne.symm d3), upd_same]
theorem xMkx (G : ErrF C.K CEa fI c Ca) (F1 : FnOk C.prog C.w C.K C.mg C.base CXn k fI fd ["self", "value"] (iniSp C.K CEa)) (hr : Room (k + 1) C.A) (hb : L2.Binds C.K fd ["self", "value"] []) (hg : Gl C c) (hm : C.mg c = some (.ref Ca)) (hdb : (c == ("__debug__" : Str)) = false) (ha : PE C (toE T0) (TrE C.K W fa)) :
    PE C (.Call (.Name c p) [toE T0] [] pos) (TrE C.K W fun e s => (fa e s).bd (mkxV c)) :=
  imE (pe_mkx G F1 hr hb hg hm ha hdb) fun σ H Q ⟨O, ρ, e, st, R, h⟩ => ⟨O, ρ, e, st, R, End.bd R.S h fun x st1 ρ1 H1 v _ s1 S1 r1 h1 => by
    unfold mkxV at h1
    split at h1
    · rename_i y s2 e2
      obtain ⟨a1, a2, a3⟩ := toP_ok S1 e2 r1
      intro a t1 dx n1 n2 n3 d1 d2 d3
      obtain ⟨b1, b2, b3⟩ := new3 a2 ⟨_, _, G⟩ n1 n2 n3 d1 d2 d3 a3
      exact h1 ρ1 _ _ (a1.trans S1 a2 b1) b2 b3
    · exact h1.elim⟩
/-- x.value -/
theorem pe_vlu {e : Expr} {te : TE} (he : PE C e te) (hb : attributeBase e "value" C.env (eval e C.env) = eval e C.env) :
    PE C (.Attribute e "value" pos) (fun σ H Q => te σ H fun x H1 => ∃ a c Ca dx t1 fs v, x = .ref a ∧ ErrC C.K c Ca ∧ H1 a = some (exw a Ca dx t1) ∧ H1 dx = some (.xd fs) ∧ fs.lookup ("value" : Str) = some v ∧ Q v H1) := by
  refine ⟨fun pins s σ H Q I h => ?_⟩
  refine L2.attr_of hb (L2.thn (he.run pins s σ H _ I h) fun u s1 ⟨x, H1, I1, rx, a, c, Ca, dx, t1, fs, v, ex, ⟨CEa, fI, G⟩, h1, h2, h3, q⟩ => ?_)
  subst ex
  obtain rfl : u = Value.ref a := rx
  obtain ⟨oe, od, IA, _, _, mA, hns, hr, ho, hl⟩ := exw_at I1 h1 h2
  obtain ⟨u, hu, ru⟩ := L2.RelO.some_of (v := v) (o := mA "value") (by rw [← h3]; exact hr "value")
  exact PySem.HandSPX.exc_get I1.kIn IA G.xf.ga G.xf.gg G.xf.exC (PySem.W.findObj_own G.xf.hdC G.er.noV rfl (by rw [hl, hu])) (L2.handed_of ru) ⟨v, H1, I1.tok _, ru, q⟩
theorem xVlu (hb : ∀ nm, attributeBase (toE T0) nm C.env (eval (toE T0) C.env) = eval (toE T0) C.env) (ha : PE C (toE T0) (TrE C.K W fa)) : PE C (.Attribute (toE T0) "value" pos) (TrE C.K W fun e s => op1 valP (fa e s)) :=
  imE (pe_vlu ha (hb _)) fun σ H Q ⟨O, ρ, e, st, R, h⟩ => ⟨O, ρ, e, st, R, End.bd R.S h fun x st1 ρ1 H1 v _ s1 S1 r1 h1 => by
    split at h1
    · rename_i y e1
      split at h1
      · rename_i z e2
        have rd := dd_rd S1 r1 e1
        unfold valP at e2
        split at e2
        · rename_i cn x' q'
          cases e2
          have hr : RepP C.K (Mt O ρ1 st1) H1 (.dict ((.none, .str cn) :: (.none, z) :: q')) v := by cases rd with | of h => exact h
          generalize hd : PyData.dict ((.none, .str cn) :: (.none, z) :: q') = d at hr
          cases hr with
          | exc hc f1 f2 f3 f4 f5 =>
            simp only [exP, PyData.dict.injEq, List.cons.injEq, Prod.mk.injEq, true_and] at hd
            obtain ⟨_, e4, _⟩ := hd
            subst e4
            exact ⟨_, _, _, _, _, _, _, rfl, hc, f1, f2, f3, h1.at S1 f4⟩
          | dct h r =>
            exfalso
            rw [← PyData.dict.inj hd] at r
            cases r with
            | cons e _ _ => exact keyV_ne e
          | _ => cases hd
        · cases e2
      · exact h1.elim
    · exact h1.elim⟩
def rIsx (K : Fg) (D : Str) (vd : V) : List V → Hp → VK → Prop := fun xs H Q => ∃ (m : Addr → Prop) (x : P) (v : V) (b : Bool), xs = [v, vd] ∧ RdP K m H x v ∧ isxP D x = some b ∧ Q (.bl b) H
theorem xIsx {D : Str} {vd : V} {ud : Value} (hD : ClsD C.K D vd ud) (hg : Gl C "isinstance") (hm : C.mg "isinstance" = none) (hc : PE C (.Name D p1) (L2.tC vd)) (ha : PE C (toE T0) (TrE C.K W fa)) :
    PE C (.Call (.Name "isinstance" p0) [toE T0, .Name D p1] [] pos) (TrE C.K W fun e s => op1 (fun x => blP (isxP D x)) (fa e s)) :=
  imE (L2.pe_callB (r := rIsx C.K D vd) (fun pins s σ H xs us Q I r ⟨m, x, v, b, e1, rd, e2, q⟩ => by subst e1; exact bIsx I rd hD e2 r q) hg hm (by decide +kernel) (L2.pa_cons ha (L2.pa_cons hc L2.pa_nil) (star_cons _ _ _)) (by decide) (by decide) (star_cons _ _ _)) fun σ H Q ⟨O, ρ, e, st, R, h⟩ =>
    ⟨O, ρ, e, st, R, End.bd R.S h fun x st1 ρ1 H1 v _ s1 S1 r1 h1 => by
      split at h1
      · rename_i y e1
        split at h1
        · rename_i c e3
          simp only [blP, Option.map_eq_some_iff] at e3
          obtain ⟨b, e3, rfl⟩ := e3
          exact ⟨_, y, v, b, rfl, dd_rd S1 r1 e1, e3, h1.at S1 (RepP.bl b)⟩
        · exact h1.elim
      · exact h1.elim⟩
theorem drop_last {K : Fg} {O : Addr → Prop} {ρ ρ' : Nat → Addr} {st : Sr} {H H' : Hp} {o : Ob} (S : RelS K O ρ H st) (s : Stp ρ st H ρ' (st ++ [o]) H') (S' : RelS K O ρ' H' (st ++ [o])) : Stp ρ st H ρ' st H' ∧ RelS K O ρ' H' st := by
  have lvl : ∀ a, live ρ' st a → live ρ' (st ++ [o]) a := fun a ⟨n, u, h1, h2, h3⟩ => ⟨n, u, by rw [List.getElem?_append_left (List.getElem?_eq_some_iff.mp h1).1]; exact h1, h2, h3⟩
  have mt : ∀ a, H' a ≠ none → Mt O ρ' st a → Mt O ρ' (st ++ [o]) a := fun a _ q => q.elim .inl fun q => .inr (lvl a q)
  refine ⟨⟨Nat.le_refl _, s.ag, fun a h => s.lv a (lvl a h), s.kp, fun n ns h => ⟨ns, h⟩, s.tb, fun n z xs h => ⟨z, xs, h⟩, fun n z xs h => ⟨z, xs, h⟩⟩, fun n u e => ?_, fun n k hn hk q => S'.inj n k (by simp; omega) (by simp; omega) q, fun n hn => S'.out n (by simp; omega), S'.al⟩
  obtain ⟨h, e1, e2⟩ := S'.ob n u (by rw [List.getElem?_append_left (List.getElem?_eq_some_iff.mp e).1]; exact e)
  refine ⟨h, e1, ?_⟩
  cases u with
  | lp z xs => obtain ⟨vs, rfl, r⟩ := e2; exact ⟨vs, rfl, r.oth mt⟩
  | lr ns =>
    refine ⟨e2.1, ?_⟩
    obtain ⟨h0, f1, f2⟩ := S.ob n _ e
    exact f2.2
  | dp z kvs => obtain ⟨ks, q, r⟩ := e2; exact ⟨ks, q, r.map fun h => h.oth mt⟩
  | no => exact e2.elim
theorem dp_data {K : Fg} {O : Addr → Prop} {ρ : Nat → Addr} {st : Sr} {H : Hp} {kvs : List (P × P)} {Q : VK} (S : RelS K O ρ H st) (h : End K W O (RpV K O) ρ st H (.ok (.p (.dict kvs)) st) Q) : End K W O (RpV K O) ρ st H (.ok (.r st.length) (st ++ [.dp 0 kvs])) Q := by
  intro ρ' H' b s' S' r
  obtain ⟨s1, S1⟩ := drop_last S s' S'
  obtain ⟨_, rfl⟩ := r
  obtain ⟨h0, e1, ks, hk, rk⟩ := S'.ob st.length (.dp 0 kvs) (by simp)
  have eh : h0 = .dK ks := by
    rcases hk with ⟨_, e⟩ | ⟨z, _⟩
    · exact e
    · exact absurd rfl z
  subst eh
  have notL : ¬ Mt O ρ' st (ρ' st.length) := fun q => by
    rcases q with q | ⟨n, u, f1, f2, f3⟩
    · exact S'.out st.length (by simp) q
    · have hn := (List.getElem?_eq_some_iff.mp f1).1
      have := S'.inj n st.length (by simp; omega) (by simp) f3
      omega
  exact h ρ' H' _ s1 S1 (.dct ⟨.inl e1, notL⟩ (rk.map fun h => h.oth fun a _ q => q.elim .inl fun ⟨n, u, f1, f2, f3⟩ => .inr ⟨n, u, by rw [List.getElem?_append_left (List.getElem?_eq_some_iff.mp f1).1]; exact f1, f2, f3⟩))
theorem xDv0 : PE C (.Dict [] [] pos) (TrE C.K W eDv0) := imE xD0 fun σ H Q ⟨O, ρ, e, st, R, h⟩ => ⟨O, ρ, e, st, R, dp_data R.S h⟩
theorem xDvc {x y : Const} {a b : Expr} (ha : PE C a (TrE C.K W (eC x))) (hb : PE C b (TrE C.K W (eC y))) : PE C (.Dict [some a] [b] pos) (TrE C.K W (eDvc x y)) :=
  imE (xD1 ha hb) fun σ H Q ⟨O, ρ, e, st, R, h⟩ => ⟨O, ρ, e, st, R, by
    unfold eDvc at h
    unfold eC
    split at h
    · rename_i kx vy e1 e2
      split at h
      · rename_i kk e3
        rw [e1, e2]
        have e4 : ∀ (z : P) (t : Sr), Mi.R.of (some (Vl.p z)) t = .ok (.p z) t := fun _ _ => rfl
        simp only [Option.map_some, e4, mkD1, e3]
        exact dp_data R.S h
      · exact h.elim
    · exact h.elim⟩
end
end Mi
end
section
set_option Elab.async false
set_option linter.all false
set_option maxRecDepth 100000
set_option maxHeartbeats 2000000
/-! X4: repr of data, of an exception. -/
namespace Mi
open PySem
open L2 (V HO Hp upd upd_same upd_ne Cx Inv PE PT PA PS PSs TE TT TA TS VK XK RelV RelO Vals Room Env0 Un HOk ObjOk Mod CE CR FnOk ne_of_none EP CallR Gl Dp)
section
variable {C : Cx} {pins : List (Addr × Obj)} {s : Shared} {σ : Sg} {H : Hp}
theorem leaf_reads {m : Addr → Prop} {x : P} {v : V} {u : Value} {h : Heap} (hl : leaf x = true) (r : RepP C.K m H x v) (q : RelV v u) : Reads h u x [] := by
  cases r with
  | non => cases (show u = Value.none from q); exact .none
  | bl b => cases (show u = Value.bool b from q); exact .bool b
  | int i => obtain ⟨t, z⟩ := (show ∃ t, u = Value.int i t from q); subst z; exact .int i t
  | str y => obtain ⟨t, z⟩ := (show ∃ t, u = Value.str y t from q); subst z; exact .str y t
  | _ => cases hl
theorem ent_reads {m : Addr → Prop} {h : Heap} : ∀ {es : List DictEntry} {vs : List (L2.Key × Value)} {kvs : List (P × P)} {ks : List (L2.Key × V)}, Pairs (L2.mixKind C.prog C.w) es vs → L2.KV ks vs → KReq C.K m H kvs ks → kvs.all (fun q => leaf q.2 && isKey q.1) = true →
    ReadsAll h (es.map (·.key)) (kvs.map (·.1)) [] ∧ ReadsAll h (es.map (·.val)) (kvs.map (·.2)) []
  | _, _, _, _, .nil, .nil, .nil, _ => ⟨.nil, .nil⟩
  | _, _, _, _, .cons (e := e) h1 h2 h3, .cons f1 f2, .cons (x := x) (y := y) g1 g2 g3, hl => by
    rw [List.all_cons, Bool.and_eq_true] at hl
    obtain ⟨r1, r2⟩ := ent_reads h3 f2 g3 hl.2
    obtain ⟨l1, l2⟩ := Bool.and_eq_true_iff.mp hl.1
    have rk : Reads h e.key x [] := by
      rw [g1]
      have e1 := f1.1
      dsimp only at e1
      rw [e1]
      rcases L2.keyIs_shape (show L2.keyIs _ e.key = true from h1) with ⟨i, t, z1, z2⟩ | ⟨y, t, z1, z2⟩
      · rw [z1, z2]; exact .int i t
      · rw [z1, z2]; exact .str y t
    have rv : Reads h e.val y [] := leaf_reads l1 g2 (by rw [h2]; exact f1.2)
    exact ⟨.cons rk r1, .cons rv r2⟩
theorem dict_reads (I : Inv C pins σ H s) {m : Addr → Prop} {a : Addr} {kvs : List (P × P)} {ks : List (L2.Key × V)} (hd : DkD m H a ks) (r : KReq C.K m H kvs ks) (hl : kvs.all (fun q => leaf q.2 && isKey q.1) = true) : Reads s.heap (.ref a) (.dict kvs) [a] ∧ a ≠ sysModules := by
  have ok : ObjOk C.prog C.w H s.heap a (.dK ks) := by
    rcases hd.1 with e | ⟨o, e⟩
    · exact I.hok a _ e
    · exact (show ObjOk C.prog C.w H s.heap a (.frz o (.dK ks)) from I.hok a _ e).2
  obtain ⟨_, hs, vs, kv, o, es, ep, ho, hx, hdt, _, hes, _⟩ := ok
  refine ⟨?_, by simpa using hs⟩
  obtain ⟨r1, r2⟩ := ent_reads (h := s.heap) hes kv r hl
  have := Reads.dict (h := s.heap) (a := a) (kvs := kvs) ho hx.1 hdt r1 r2
  simpa using this
/-- what repr reads -/
theorem shw_reads (I : Inv C pins σ H s) {m : Addr → Prop} {x : P} {v : V} {u : Value} (h : RdP C.K m H x v) (q : RelV v u) (hf : flat x = true) : ∃ as, Reads s.heap u x as ∧ (x.hasDict = true → sysModules ∉ as) := by
  by_cases hd : x.hasDict = false
  · obtain ⟨as, r⟩ := Dp.reads I _ _ _ (h.dp hd) q
    exact ⟨as, r, fun z => by rw [hd] at z; cases z⟩
  · cases x with
    | dict kvs =>
      have hr : RepP C.K m H (.dict kvs) v := by cases h with | of h => exact h
      have hl : kvs.all (fun q => leaf q.2 && isKey q.1) = true := hf
      generalize he : PyData.dict kvs = d at hr
      cases hr with
      | dct h1 h2 =>
        have e := PyData.dict.inj he
        subst e
        cases (show u = Value.ref _ from q)
        obtain ⟨r, n⟩ := dict_reads I h1 h2 hl
        exact ⟨_, r, fun _ z => n (List.mem_singleton.mp z).symm⟩
      | exc =>
        have e := PyData.dict.inj he
        subst e
        simp [isKey] at hl
      | _ => cases he
    | _ => exact absurd (by simpa [flat] using hf) hd
/-- repr(x), x data -/
theorem repr_data (I : Inv C pins σ H s) (hg : C.A.guards = some []) (hu : C.A.units + 65 < cLine) {m : Addr → Prop} {x : P} {v : V} {u : Value} {t : Str} {Q : VK} (h : RdP C.K m H x v) (q : RelV v u) (e : shwD x = some t) (k : Q (.str t) H) :
    wpAny (model C.prog C.w) C.A (call (.builtin "repr") [u]) (EP C pins σ Q) C.xe s := by
  unfold shwD at e
  split at e
  · rename_i ok
    cases e
    unfold okShw at ok
    simp only [Bool.and_eq_true, decide_eq_true_eq] at ok
    obtain ⟨⟨⟨o1, o2⟩, o3⟩, o4⟩ := ok
    have sz : x.shown.length ≤ sizeLine := lim_line o2
    have fin : ∀ tk tk', EP C pins σ Q (.str x.shown tk) { s with toks := tk' } := fun tk tk' => ⟨.str x.shown, H, I.tok _, ⟨tk, rfl⟩, k⟩
    by_cases hl : leaf x = true
    · have hr : RepP C.K m H x v := by
        cases h with
        | of h => exact h
        | lst _ _ => cases hl
      cases hr with
      | non => cases (show u = Value.none from q); exact P.repr_of_none (fin _ _)
      | bl b => cases (show u = Value.bool b from q); exact P.repr_of_bool (by have := fin s.toks (s.toks + 1); simpa [PyData.shown] using this)
      | int i =>
        obtain ⟨t, z⟩ := (show ∃ t, u = Value.int i t from q); subst z
        exact P.repr_of_int (by simpa [PyData.showable] using o1) (by have := fin s.toks (s.toks + 1); simpa [PyData.shown] using this)
      | str y =>
        obtain ⟨t, z⟩ := (show ∃ t, u = Value.str y t from q); subst z
        exact P.repr_of_str (by have := fin s.toks (s.toks + 1); simpa [PyData.shown] using this) (by simpa [PyData.shown] using sz)
      | _ => cases hl
    · obtain ⟨as, r, hsm⟩ := shw_reads I h q o4
      have hra : ∃ a, u = .ref a := by
        cases r with
        | list => exact ⟨_, rfl⟩
        | tuple => exact ⟨_, rfl⟩
        | dict => exact ⟨_, rfl⟩
        | _ => exact absurd rfl hl
      obtain ⟨a, rfl⟩ := hra
      exact repr_of_reads' r o1 hsm hg (by omega) (fun _ _ z => z) (fun h' u' tk hk => ⟨.str x.shown, H, I.kept hk, ⟨u', rfl⟩, k⟩) sz
  · cases e
/-- the value under a base, x data -/
theorem under_data (I : Inv C pins σ H s) {A : Around} {E : Value → Shared → Prop} (hg : A.guards = some []) (hu : A.units + 51 < cLine) {m : Addr → Prop} {x : P} {v : V} {u : Value} {n : Nat} {Q : Str → Shared → Prop} (h : RdP C.K m H x v) (q : RelV v u) (ok : okShw x = true) (hn : n + x.shown.length ≤ sizeLine)
    (k : ∀ h' tk, (∀ b o, s.heap.get? b = some o → h'.get? b = some o) → Q x.shown { s with heap := h', toks := tk }) : wpAny (model C.prog C.w) A (pyReprUnder n u) Q E s := by
  unfold okShw at ok
  simp only [Bool.and_eq_true, decide_eq_true_eq] at ok
  obtain ⟨⟨⟨o1, o2⟩, o3⟩, o4⟩ := ok
  obtain ⟨as, r, hsm⟩ := shw_reads I h q o4
  obtain ⟨bs, _, rk⟩ := ReprK.of_reads (prog := C.prog) (w := C.w) r o1 hsm (lim_line o2)
  exact rk n hn A [] E s Q hg (fun b _ => Clear.nil b) (by omega) (fun _ _ z => z) k
theorem repr_exc (I : Inv C pins σ H s) (hg : C.A.guards = some []) (hu : C.A.units + 65 < cLine) {m : Addr → Prop} {a Ca dx t1 CEa fI : Addr} {c : Str} {x : P} {v : V} {fs : List (Str × V)} {Q : VK} (G : ErrF C.K CEa fI c Ca) (h1 : H a = some (exw a Ca dx (some t1))) (h2 : H dx = some (.xd fs)) (h3 : H t1 = some (.tup [v]))
    (rx : RepP C.K m H x v) (ok : okShw x = true) (sz : (shwX c x.shown).length ≤ lim) (k : Q (.str (shwX c x.shown)) H) : wpAny (model C.prog C.w) C.A (call (.builtin "repr") [.ref a]) (EP C pins σ Q) C.xe s := by
  obtain ⟨oe, od, IA, hdx, ⟨vs, hd, h0⟩, _⟩ := exw_at I h1 h2
  obtain ⟨_, its, rv, ot, ht, hct, nt, hdt⟩ := (show ObjOk C.prog C.w H s.heap t1 (.tup [v]) from I.hok t1 _ h3)
  obtain ⟨u, rfl, ru⟩ := L2.vals1 rv
  have KX := I.kIn
  have tyL := IA.type (M := model C.prog C.w)
  have fiL := PySem.W.looks_findIn (M := model C.prog C.w) KX G.rp
  have isB : PySem.W.Looks (model C.prog C.w) s.heap (isInstance (.ref a) (.type "BaseException")) true := tyL.andThen (PySem.W.looks_subIn KX G.ex.hs)
  have inner : wpAny (model C.prog C.w) C.A.in1 (call (.builtin "BaseException.__repr__") [.ref a]) (fun r s' => ∃ m tk, r = .str m tk ∧ EP C pins σ Q r s') C.xe s := by
    refine wpAny_call (codeAny_call_builtin F.excStr_ValueError.repr.plain F.entry_bexc_repr (@PySem.W.check_slot (model C.prog C.w) _ _ s "BaseException.__repr__" "BaseException" "__repr__" (.ref a) [] [] _ (by decide +kernel) (by decide +kernel) isB (F.args_bexc_repr _) ?_))
    unfold Builtin.«BaseException.__repr__» Builtin.bexcReprAt
    refine wpAny_bind (wpAny_of_eq (a := ((Value.ref a : Value), ([] : List Value))) (by first | rfl | (simp only [slotArgs]; rfl)) ?_)
    unfold typeNameOfWhole shownTypeOf
    refine wpAny_bind (wpAny_bind (wpAny_bind (tyL.at ?_)))
    dsimp only
    rw [if_neg (by simp)]
    refine wpAny_pure ?_
    obtain ⟨cd, own, e1, e2, _⟩ := G.cd
    have cdL : PySem.W.Looks (model C.prog C.w) s.heap (classData Ca) cd := PySem.W.looks_clsIn KX e1
    show wpAny _ _ (do return (← classData Ca).name.toString) _ _ _
    refine wpAny_bind (cdL.at (wpAny_pure ?_))
    rw [e2]
    unfold Builtin.BaseException.bexcArgs
    have hdt' : ot.data = .seq #[u] nt := hdt
    have l1 : (shwX c x.shown).length = (excN c).length + 1 + x.shown.length + 1 := by
      unfold shwX
      rw [strLen_append, strLen_append, strLen_append]
      rfl
    have hg2 : C.A.in1.in1.guards = some [] := hg
    have hu2 : C.A.in1.in1.units + 51 < cLine := by show C.A.units + 1 + 1 + 51 < cLine; omega
    have hn : 0 + ((Str.ofString ((c.toString.cutAt '.').getLastD "")).length + 1) + x.shown.length ≤ sizeLine := by
      have := lim_line sz
      rw [l1] at this
      have e : (Str.ofString ((c.toString.cutAt '.').getLastD "")).length = (excN c).length := rfl
      omega
    repeat (first | with_reducible refine wpAny_field IA.at_ hd (h0 _ rfl) ?_ | with_reducible refine wpAny_seqItems ht hdt' ?_ | with_reducible refine under_data I hg2 hu2 (.of rx) ru ok hn (fun h' tk hk => ?_) | wp_step)
    rw [if_neg (by have := lim_line sz; show ¬ (shwX c x.shown).length > sizeLine; omega)]
    refine wpAny_bind (wpAny_fresh (wpAny_pure (wpAny_pure ⟨_, _, rfl, .str _, H, ?_, ⟨_, rfl⟩, k⟩)))
    exact I.kept hk
  refine Calls.call_function_entry F.kind_repr F.plain_repr F.entry_repr (F.args_repr1 _) ?_
  unfold Builtin.«repr»
  refine wpAny_bind (m := oneArg "repr" _) (wpAny_pure (wpAny_bind (wpAny_cRoomFor (by show C.A.units + 1 < cLine; omega) ?_)))
  refine wpAny_bind (wpAny_bind (tyL.here (fiL.here ?_)))
  dsimp only
  rw [if_neg (by simp)]
  simp only [callSpecialIfBound?, bindSpecialIfBound?]
  have bnd : bindSpecial (.builtin "BaseException.__repr__") (.ref a) = pure (.builtin "BaseException.__repr__", [.ref a]) := F.excStr_ValueError.repr.bind _
  refine wpAny_bind (wpAny_holding (wpAny_bind (wpAny_bind (wpAny_bind (tyL.here (fiL.here ?_))))))
  dsimp only
  rw [bnd]
  have fin : wpAny (model C.prog C.w) C.A.in1 (call (.builtin "BaseException.__repr__") ([.ref a] ++ []) >>= fun v => pure (some v)) (fun r s' => ∃ m tk, r = some (.str m tk) ∧ EP C pins σ Q (.str m tk) s') C.xe s :=
    wpAny_bind (wpAny_mono inner (fun v s' ⟨m, tk, e, z⟩ => wpAny_pure ⟨m, tk, by rw [e], e ▸ z⟩) fun _ _ z => z)
  refine wpAny_bind (wpAny_askSetting (wpAny_ite ?_))
  have fin2 : wpAny (model C.prog C.w) C.A.in1 (call (.builtin "BaseException.__repr__") ([.ref a] ++ []) >>= fun v => pure (some v)) (fun r s' => wpAny (model C.prog C.w) C.A.in1
        (match r with
        | some r => do
          let __do_lift ← isInstance r (Value.type "str")
          if __do_lift = true then ret r
            else do
              rule "repr.not-str"
              let __do_lift ← typeNameOf r
              raiseErrorMade "TypeError" (toString "__repr__ returned non-string (type " ++ toString __do_lift ++ toString ")")
        | x => unsupported "repr:special-get-raises")
        (fun fin s' => ∃ v, fin = Fin.done (Flow.ret v) ∧ EP C pins σ Q v s') C.xe s') C.xe s := wpAny_mono fin (fun r s' ⟨m, tk, e, z⟩ => by
    subst e
    dsimp only
    refine wpAny_bind (wpAny_isInstance (typeIs_str _ _ _) isSubtype_str_str ?_)
    first
      | exact wpAny_pure ⟨_, rfl, z⟩
      | (rw [if_pos rfl]; exact wpAny_pure ⟨_, rfl, z⟩)) fun _ _ z => z
  split
  · exact wpAny_bind (wpAny_pure (wpAny_pure fin2))
  · refine wpAny_tryCatch (wpAny_bind (wpAny_pure (wpAny_pure ?_)))
    exact fin2
def rShw (K : Fg) : List V → Hp → VK → Prop := fun xs H Q => ∃ (O : Addr → Prop) (ρ : Nat → Addr) (st : Sr) (x : P) (v : V) (t : Str), xs = [v] ∧ RdP K (Mt O ρ st) H x v ∧ shw x = some t ∧ Q (.str t) H
theorem bShw (hg : C.A.guards = some []) (hu : C.A.units + 65 < cLine) : CallR C (.builtin "repr") (rShw C.K) := by
  intro pins s σ H xs us Q I r ⟨O, ρ, st, x, v, t, e1, rd, e, q⟩
  subst e1
  obtain ⟨u, rfl, ru⟩ := L2.vals1 r
  unfold shw at e
  split at e
  · rename_i c y
    have hr : RepP C.K (Mt O ρ st) H (.dict ((.none, .str c) :: (.none, y) :: [])) v := by cases rd with | of h => exact h
    split at e
    · rename_i t' e'
      split at e
      · rename_i hz
        cases e
        unfold shwD at e'
        split at e'
        · rename_i ok
          cases e'
          generalize hd : PyData.dict ((.none, .str c) :: (.none, y) :: []) = d at hr
          cases hr with
          | exc hc f1 f2 f3 f4 f5 =>
            simp only [exP, PyData.dict.injEq, List.cons.injEq, Prod.mk.injEq, true_and, PyData.str.injEq] at hd
            obtain ⟨e3, e4, e5⟩ := hd
            subst e3 e4
            obtain ⟨t, rfl, ht⟩ := f5 e5.symm
            obtain ⟨_, _, G⟩ := hc
            cases (show u = Value.ref _ from ru)
            exact repr_exc I hg hu G f1 f2 ht f4 ok hz q
          | dct h rk =>
            exfalso
            rw [← PyData.dict.inj hd] at rk
            cases rk with
            | cons e _ _ => exact keyV_ne e
          | _ => cases hd
        · cases e'
      · cases e
    · cases e
  · cases e
  · exact repr_data I hg hu rd ru e q
theorem xShw {W : Str → Option Addr → Hp → Prop} {T0 : T} {fa : En → Sr → R Vl} {p0 pos : Pos} (hgu : C.A.guards = some []) (hu : C.A.units + 65 < cLine) (hg : Gl C "repr") (hm : C.mg "repr" = none) (ha : PE C (toE T0) (TrE C.K W fa)) :
    PE C (.Call (.Name "repr" p0) [toE T0] [] pos) (TrE C.K W fun e s => op1 (fun x => (shw x).map .str) (fa e s)) :=
  imE (L2.pe_callB (bShw hgu hu) hg hm (by decide +kernel) (L2.pa_cons ha L2.pa_nil (star_cons _ _ _)) (by decide) (by decide) (star_cons _ _ _)) fun σ H Q ⟨O, ρ, e, st, R, h⟩ =>
    ⟨O, ρ, e, st, R, End.bd R.S h fun x st1 ρ1 H1 v _ s1 S1 r1 h1 => by
      split at h1
      · rename_i y e1
        split at h1
        · rename_i c e3
          obtain ⟨b, e4, rfl⟩ := Option.map_eq_some_iff.mp (show (shw y).map PyData.str = some c from e3)
          exact ⟨O, ρ1, st1, y, v, b, rfl, dd_rd S1 r1 e1, e4, h1.at S1 (RepP.str b)⟩
        · exact h1.elim
      · exact h1.elim⟩
end
end Mi
end
section
set_option Elab.async false
set_option linter.all false
set_option maxRecDepth 100000
set_option maxHeartbeats 2000000
/-! X5: raise C(x). -/
namespace Mi
open PySem PySem.Spec PyProof.Rows
open L2 (V HO Hp upd upd_same upd_ne Cx Inv PE PT PA PS PSs TE TT TA TS VK XK RelV RelO Vals Room Env0 Un HOk ObjOk Mod CE CR FnOk OexC exo exd frs ne_of_none EP CallR Gl delH delH_same delH_ne MkP PMk restrict)
section
variable {X : Cx} {pins : List (Addr × Obj)} {σ : Sg} {H1 H2 : Hp} {hp hp2 h2 : Heap} {g1 g2 : Array GenState} {d1 d2 : Drawn} {t1 t2 : Nat} {os1 os2 : OsState} {a : Addr} {o1 : HO} {φ : Heap → Prop}
/-- a new thing is let go again -/
theorem mk_del (I : Inv X pins σ H1 ⟨hp, g1, d1, t1, os1⟩) (new : hp.objs.size ≤ a) (k : ∀ b o, hp.get? b = some o → hp2.get? b = some o) (un : Un (frs X.stack) [] (upd H1 a o1) H2 hp2 h2) (hok : HOk X.prog X.w H2 h2) (ho : os2 = os1) (hb : AllBare g2)
    (ea : H2 a = some (.ext φ)) (nt : ∀ xs, o1 ≠ .tup xs) : ∃ G : Heap, Inv X pins σ (delH H2 a) ⟨G, g2, d2, t2, os2⟩ ∧ (∀ b o, G.get? b = some o → h2.get? b = some o) ∧ G.get? a = none := by
  obtain ⟨G, r1, r2⟩ := restrict h2 fun b => decide (b ≠ a)
  have same : ∀ b, b ≠ a → G.get? b = h2.get? b := fun b n => r1 b (decide_eq_true n)
  have gone : G.get? a = none := r2 a (by simp)
  have n1 : H1 a = none := I.hok.fresh new
  have old : ∀ {b : Addr} {o : Obj}, hp.get? b = some o → b ≠ a := fun {b o} z w => absurd (Heap.lt_size z) (by rw [w]; exact Nat.not_lt.mpr new)
  have nn : ∀ {b : Addr}, b ≠ a → H1 b = none → upd H1 a o1 b = none := fun {b} n z => by rw [upd_ne n]; exact z
  have tr : ∀ {b : Addr} {o : HO}, H1 b = some o → b ≠ a := fun {b o} z w => by rw [w, n1] at z; cases z
  refine ⟨G, I.call' (ch := []) ho (H' := delH H2 a) ⟨fun b o z n hf hx => ?_, fun b o z n hf hx => ?_, fun b o z n hx => ?_, fun b o z hx => ?_, fun b xs z => ?_, fun b o v z => ?_, fun b ps z => ?_⟩ (fun b o z => ?_) hb (fun b z => absurd z (by simp)), fun b o z => ?_, gone⟩
  · exact (same b (old z)).trans (un.keep b o (k b o z) (nn (old z) n) hf hx)
  · obtain ⟨sl, q⟩ := un.slot b o (k b o z) (nn (old z) n) hf hx
    exact ⟨sl, (same b (old z)).trans q⟩
  · rw [delH_ne (old z)]
    exact un.free b o (k b o z) (nn (old z) n) hx
  · obtain ⟨o', q⟩ := un.there b o (k b o z) hx
    exact ⟨o', (same b (old z)).trans q⟩
  · rw [delH_ne (tr z)]
    exact un.tups b xs (by rw [upd_ne (tr z)]; exact z)
  · rw [delH_ne (tr z)]
    exact un.frzs b o v (by rw [upd_ne (tr z)]; exact z)
  · rw [delH_ne (tr z)]
    exact un.tbls b ps (by rw [upd_ne (tr z)]; exact z)
  · by_cases hba : b = a
    · rw [hba, delH_same] at z; cases z
    · rw [delH_ne hba] at z
      have ne : ∀ {c : Addr} {u : HO}, H2 c = some u → (∀ ψ, u ≠ .ext ψ) → c ≠ a := fun {c u} q n w => by rw [w, ea] at q; cases q; exact n _ rfl
      exact (hok b o z).stay (fun c v hc q => by
          have : c ≠ a := by
            rcases hc with hc | hc
            · rw [hc]; exact hba
            · exact ne hc fun _ w => nomatch w
          rw [same c this]; exact q) (fun c hc => by rw [delH_ne (ne hc fun _ w => nomatch w)]; exact hc) fun c xs hc => by rw [delH_ne (ne hc fun _ w => nomatch w)]; exact hc
  · by_cases hba : b = a
    · rw [hba, gone] at z; cases z
    · rw [← same b hba]; exact z
end
section
variable {X : Cx} {Ca CEa fI : Addr} {c : Str} {te : TE} {p pos : Pos} {k : Nat} {fd : FuncData}
def tRx (Ca : Addr) (te : TE) : Sg → Hp → XK → Prop := fun σ H Q => te σ H fun v H1 => ∀ t1 dx, H1 t1 = none → H1 dx = none → dx ≠ t1 → Q (.ref Ca) (some dx) (upd (upd H1 t1 (.tup [v])) dx (.xd [("value", v)]))
theorem pmk_x {T0 : T} (G : ErrF X.K CEa fI c Ca) (F1 : FnOk X.prog X.w X.K X.mg X.base CXn k fI fd ["self", "value"] (iniSp X.K CEa)) (hr : Room (k + 1) X.A) (hb : L2.Binds X.K fd ["self", "value"] []) (hg : Gl X c) (hm : X.mg c = some (.ref Ca)) (he : PE X (toE T0) te)
    (hdb : (c == ("__debug__" : Str)) = false) : PMk X (.Call (.Name c p) [toE T0] [] pos) (tRx Ca te) := by
  intro pins s σ H Q I h
  obtain ⟨nm, q, N, bs, bm, sn, sub, ab, col, dd, k0, k1, k2, k3, k5, hC, hbm⟩ := G.er.oex.cls
  refine wpAny_Call_Name_kw (L2.ld_glob I hg hm ?_ hdb)
  have ha : PA X [toE T0] (L2.tCons te L2.tNil) := L2.pa_cons he L2.pa_nil (star_cons _ _ _)
  refine PySem.W.callWith_K (h₀ := X.base) I.ok.mod.kin G.er.oex.kC (L2.thn (ha.run pos pins s σ H (fun vs H1 => match vs with
      | [v] => ∀ t1 dx, H1 t1 = none → H1 dx = none → dx ≠ t1 → Q (.ref Ca) (some dx) (upd (upd H1 t1 (.tup [v])) dx (.xd [("value", v)]))
      | _ => False) I h) fun us s1 ⟨vs, H1, I1, r1, q1⟩ => ⟨I1.kIn, ?_⟩) (star_cons _ _ _) rfl
  match vs, q1, r1 with
  | [v], q1, r1 =>
    obtain ⟨u, rfl, ru⟩ := L2.vals1 r1
    show wpAny _ _ (call (.ref Ca) [u]) _ _ _
    obtain ⟨hp, g, dr, tk, os⟩ := s1
    obtain ⟨N1, hN⟩ : ∃ n, n = hp.objs.size + 1 := ⟨_, rfl⟩
    have up : hp.objs.size ≤ N1 := by omega
    have free1 : H1 N1 = none := I1.hok.fresh up
    have keep2 : ∀ b o, hp.get? b = some o → ((hp.push (PySem.W.kdv_tup [u])).push (PySem.HandSPX.excO Ca hp.objs.size)).get? b = some o := fun b o z => Heap.get?_push_of_some _ (Heap.get?_push_of_some _ z)
    have new2 : ((hp.push (PySem.W.kdv_tup [u])).push (PySem.HandSPX.excO Ca hp.objs.size)).get? N1 = some (PySem.HandSPX.excO Ca hp.objs.size) := by rw [hN]; heap_get
    have J : Inv X pins σ (upd H1 N1 (exo N1 Ca none)) ⟨(hp.push (PySem.W.kdv_tup [u])).push (PySem.HandSPX.excO Ca hp.objs.size), g, dr, tk, os⟩ := I1.laid (t' := tk) keep2 up (L2.exo_ok new2)
    have two : Vals [V.ref N1, v] [Value.ref N1, u] := .cons rfl (.cons ru .nil)
    have sz1 : [u].length ≤ sizeLine := by show 1 ≤ sizeLine; rw [sizeLine_eq]; omega
    have spec : iniSp X.K CEa [V.ref N1, v] (upd H1 N1 (exo N1 Ca none)) (fun w H2 => w = .non ∧ ∃ t1 dx, H1 t1 = none ∧ H1 dx = none ∧ t1 ≠ N1 ∧ dx ≠ N1 ∧ dx ≠ t1 ∧ H2 N1 = some (exq N1 Ca (some dx) t1) ∧ delH H2 N1 = upd (upd H1 t1 (.tup [v])) dx (.xd [("value", v)])) (fun _ _ _ => False) := by
      refine ⟨N1, Ca, v, rfl, G.er, upd_same, fun t1 dx n1 n2 q1 q2 q3 => ⟨rfl, t1, dx, ?_, ?_, q1, q2, q3, ?_, ?_⟩⟩
      · rw [upd_ne q1] at n1; exact n1
      · rw [upd_ne q2] at n2; exact n2
      · rw [upd_ne (Ne.symm q2), upd_same]
      · funext b
        by_cases b2 : b = N1
        · rw [b2, delH_same, upd_ne (Ne.symm q2), upd_ne (Ne.symm q1), free1]
        · rw [delH_ne b2]
          by_cases b1 : b = dx
          · rw [b1, upd_same, upd_same]
          · rw [upd_ne b1, upd_ne b1, upd_ne b2]
            by_cases b3 : b = t1
            · rw [b3, upd_same, upd_same]
            · rw [upd_ne b3, upd_ne b3, upd_ne b2]
    refine wpAny_call (PySem.HandSPX.call_own F.excBase_ValueError (fun Y => PySem.HandSPX.refsVE_contains Y bm hbm) (I1.kIn _ _ hC) (PySem.W.looks_findIn I1.kIn G.init) (fun self => PySem.W.bind_fn I1.kIn self G.tI) sz1
      (codeAny_mono (F1.run _ X.stack _ _ ⟨[Value.ref (hp.objs.size + 1), u], []⟩ [Value.ref N1, u] _ _ (fun _ _ _ => False) (hr.make Ca [u] []) (J.env0.make Ca [u] []) (by rw [← hN]; exact hb _ [Value.ref N1, u] J.kIn rfl) two spec) fun r s' hq => ?_))
    cases r with
    | error er => exact hq.elim
    | ok fl =>
      cases fl with
      | next => exact hq.elim
      | brk => exact hq.elim
      | cont => exact hq.elim
      | ret w =>
        obtain ⟨x, H2, os2, bare2, un2, hok2, rv, rfl, t1, dx, n1, n2, d1, d2, d3, ea, eD⟩ := hq
        obtain ⟨hh, gg, dd', tt, os'⟩ := s'
        obtain ⟨G', J2, gk, gn⟩ := mk_del (d2 := dd') (t2 := tt) I1 up keep2 un2 hok2 os2 bare2 ea (fun xs z => by
          have z' : HO.ext _ = HO.tup xs := z
          cases z')
        have hx := exq_at hok2 ea
        rw [eD] at J2
        have fin : MkP X pins σ Q (.ref N1) ⟨hh, gg, dd', tt, os'⟩ := ⟨N1, _, _, ⟨G', gg, dd', tt, os'⟩, _, .ref Ca, some dx, rfl, J2, gk, gn, hx, ⟨rfl, rfl⟩, rfl, rfl, by rw [upd_ne (Ne.symm d2), upd_ne (Ne.symm d1), free1], rfl, bare2, L2.raises_own G.er.oex.exC G.er.oex.tyC, q1 t1 dx n1 n2 d3⟩
        rw [hN] at fin
        exact ⟨rv, fin⟩
end
section
variable {C : Cx} {cl : Str → Value} {E : XK} {Ca CEa fI : Addr} {c : Str} {p p0 pos : Pos} {k : Nat} {fd : FuncData} {T0 : T} {fa : En → Sr → R Vl}
theorem new2 {K : Fg} {O : Addr → Prop} {ρ : Nat → Addr} {st : Sr} {H : Hp} {t1 dx : Addr} {x : P} {v : V} (S : RelS K O ρ H st) (hc : ErrC K c Ca) (n2 : H t1 = none) (n3 : H dx = none) (d3 : dx ≠ t1) (r : RepP K (Mt O ρ st) H x v) :
    Stp ρ st H ρ st (upd (upd H t1 (.tup [v])) dx (.xd [("value", v)])) ∧ RelS K O ρ (upd (upd H t1 (.tup [v])) dx (.xd [("value", v)])) st ∧ XAt K (Mt O ρ st) (upd (upd H t1 (.tup [v])) dx (.xd [("value", v)])) c x dx := by
  have m3 : upd H t1 (.tup [v]) dx = none := by rw [upd_ne d3]; exact n3
  have S2 := S.new (o := .tup [v]) n2
  have S3 := S2.new (o := .xd [("value", v)]) m3
  have s2 : Stp ρ st _ ρ st _ := Stp.new S (o := .tup [v]) n2
  have s3 : Stp ρ st _ ρ st _ := Stp.new S2 (o := .xd [("value", v)]) m3
  have s23 := s2.trans S S2 s3
  exact ⟨s23, S3, ⟨_, hc⟩, v, [("value", v)], upd_same, by simp [List.lookup], r.stp S s23⟩
theorem sRax (hc : C.calm = true) (tk : L2.Takes C fun cls d _ H => E cls d H) (ecl : cl c = .ref Ca) (G : ErrF C.K CEa fI c Ca) (F1 : FnOk C.prog C.w C.K C.mg C.base CXn k fI fd ["self", "value"] (iniSp C.K CEa)) (hr : Room (k + 1) C.A) (hb : L2.Binds C.K fd ["self", "value"] []) (hg : Gl C c) (hm : C.mg c = some (.ref Ca))
    (hdb : (c == ("__debug__" : Str)) = false) (ha : PE C (toE T0) (TrE C.K (WE cl E) fa)) : PS C (.Raise (some (.Call (.Name c p0) [toE T0] [] p)) none pos) (TrS C.K (WE cl E) fun e s => (fa e s).bx (rxV c)) :=
  imS (L2.ps_raise hc tk (pmk_x G F1 hr hb hg hm ha hdb)) fun D σ H ⟨O, ρ, e, st, R, h⟩ => ⟨O, ρ, e, st, R, End.bx R.S h fun x st1 ρ1 H1 v _ s1 S1 r1 h1 => by
    unfold rxV at h1
    split at h1
    · rename_i y s2 e2
      obtain ⟨a1, a2, a3⟩ := toP_ok S1 e2 r1
      intro t1 dx n2 n3 d3
      obtain ⟨b1, b2, b3⟩ := new2 a2 ⟨_, _, G⟩ n2 n3 d3 a3
      have := h1 ρ1 _ dx (a1.trans S1 a2 b1) b2 b3
      unfold WE at this
      rw [ecl] at this
      exact this
    · exact h1.elim⟩
end
end Mi
end
section
set_option Elab.async false
set_option linter.all false
set_option maxRecDepth 100000
set_option maxHeartbeats 2000000
/-! D4: dicts: comprehensions, walks. -/
namespace Mi
open PySem
open L2 (V HO Hp upd upd_same upd_ne SqL SqT Rd Cx Inv PE PT PA PS PSs PG PGs PI TE TT TA TS TG TGs TI It VK XK Ends RelV Vals ne_of_none OpR R2 EP CallR UnR IxR SlR TruR Gl Vis Loc Itl Itt Itr wipe Key valV putK DGet DPut mixKind)
section
variable {C : Cx} {W : Str → Option Addr → Hp → Prop} {fi : En → Sr → R (List Vl ⊕ Nat)} {gl : List P} {F : Nat → List Vl → Sr → R Vl} {tg cond kx vx : T}
theorem dcL_ok {tg : Vl → En → Sr → X} {cond : En → Sr → R Bool} {kx vx : En → Sr → R Vl} {e : En} : ∀ (vs : List Vl) (acc : List (P × P)) (s : Sr), (∃ xs s', dcL tg cond kx vx e vs acc s = .ok xs s') ∨ dcL tg cond kx vx e vs acc s = .no
  | [], acc, s => .inl ⟨_, _, rfl⟩
  | v :: r, acc, s => by
    simp only [dcL]
    split
    · split
      · split
        · split
          · split
            · split
              · exact dcL_ok r _ _
              · exact .inr rfl
            · exact .inr rfl
          · exact .inr rfl
        · exact .inr rfl
      · exact dcL_ok r _ _
      · exact .inr rfl
    · exact .inr rfl
theorem dc_turn {O' : Addr → Prop} {ρ1 ρ2 : Nat → Addr} {st1 st2 : Sr} {H1 H : Hp} {σ : Sg} {e : En} {v : Vl} {rest : List (P × P) → Sr → R (List (P × P))} {x : V} {D : Addr} {acc : List (Key × V)} {accP kvs : List (P × P)} {s'' : Sr} {vs : List Nat} {N : Hp → Prop}
    (hn : nmT vs tg = true) (s2 : Stp ρ1 st1 H1 ρ2 st2 H) (S2 : RelS C.K O' ρ2 H st2) (S1' : RelS C.K (fun _ => False) ρ1 H1 st1) (E2 : RelE C.K O' ρ2 (wipe σ vs) H (wipeE e vs) st2) (hO : O' D) (h1D : H1 D = none) (hD : H D = some (.dK acc))
    (ra : KReq C.K (Mt O' ρ2 st2) H accP acc) (rv : Rep C.K O' ρ2 st2 H v x)
    (h : dcT (sem gl F tg).k (cnd (sem gl F cond)) (sem gl F kx).e (sem gl F vx).e (wipeE e vs) v accP st2 rest = .ok kvs s'')
    (hN : ∀ ρ3 st3 H3 acc3 accP3, Stp ρ1 st1 H1 ρ3 st3 H3 → StpX (fun a => a = D) ρ2 st2 H ρ3 st3 H3 → RelS C.K O' ρ3 H3 st3 → RelE C.K O' ρ3 (wipe σ vs) H3 (wipeE e vs) st3 → H3 D = some (.dK acc3) → KReq C.K (Mt O' ρ3 st3) H3 accP3 acc3 → rest accP3 st3 = .ok kvs s'' → N H3) :
    gE C.K tg x (wipe σ vs) H fun σ2 H2 => wipe σ2 vs = wipe σ vs ∧ TrT C.K W0 (cnd (sem gl F cond)) σ2 H2 fun b H3 =>
      if b = true then TrE C.K W0 (sem gl F kx).e σ2 H3 fun y H4 => TrE C.K W0 (sem gl F vx).e σ2 H4 fun z H5 => ∃ kvs k, y = L2.kV k ∧ H5 D = some (.dK kvs) ∧ kvs.length < sizeLine ∧ N (upd H5 D (.dK (putK kvs k z))) else N H3 := by
  unfold dcT at h
  cases q : (sem gl F tg).k v (wipeE e vs) st2 with
  | nx e1 s1 =>
    rw [q] at h
    have e0 := (gE_st gl F vs tg _ e1 st2 s1 v hn q).symm
    subst e0
    dsimp only at h
    refine gE_ok gl F vs tg (wipe σ vs) _ e1 v x hn E2 rv q fun σ' E' w' => ⟨by rw [w', wipe_wipe], ?_⟩
    have R' : Rel C.K O' ρ2 σ' H e1 st2 := ⟨S2, E'⟩
    refine ⟨O', ρ2, e1, st2, R', ?_⟩
    cases qc : cnd (sem gl F cond) e1 st2 with
    | ok b s3 =>
      rw [qc] at h
      intro ρ3 H3 b' t3 S3 rb
      cases (show b = b' from rb)
      have R3 := R'.go t3 S3
      have nl : ∀ {ρ : Nat → Addr} {st : Sr} {H : Hp}, RelS C.K O' ρ H st → ¬ live ρ st D := fun S ⟨n, o, q1, q2, q3⟩ => S.out n (List.getElem?_eq_some_iff.mp q1).1 (q3 ▸ hO)
      have hD3 : H3 D = some (.dK acc) := t3.kp D _ hD (nl S2) fun ps z => nomatch z
      have u3 := s2.trans S1' (S2.less fun _ z => z.elim) t3
      cases b with
      | false => exact hN ρ3 s3 H3 acc accP u3 (t3.x S2 S3) S3 (E2.stp S2 t3) hD3 (ra.map fun h => h.stp S2 t3) h
      | true =>
        dsimp only at h
        refine ⟨O', ρ3, e1, s3, R3, ?_⟩
        cases qe : (sem gl F kx).e e1 s3 with
        | ok kw s4 =>
          rw [qe] at h
          intro ρ4 H4 y t4 S4 ry
          dsimp only at h
          refine ⟨O', ρ4, e1, s4, R3.go t4 S4, ?_⟩
          cases qv : (sem gl F vx).e e1 s4 with
          | ok w s5 =>
            rw [qv] at h
            cases w with
            | r n => cases h
            | p d =>
              dsimp only at h
              intro ρ5 H5 z t5 S5 rz
              cases qk : key? kw with
              | none => rw [qk] at h; cases h
              | some k =>
                rw [qk] at h
                dsimp only at h
                split at h
                · rename_i hl
                  obtain ⟨kk, rfl, rfl⟩ := key_ex qk
                  have ey : y = L2.kV kk := key_rep ry
                  subst ey
                  have hD4 : H4 D = some (.dK acc) := t4.kp D _ hD3 (nl S3) fun ps z => nomatch z
                  have hD5 : H5 D = some (.dK acc) := t5.kp D _ hD4 (nl S4) fun ps z => nomatch z
                  have u5 := u3.trans S1' (S3.less fun _ z => z.elim) (t4.trans S3 S4 t5)
                  have E5 := ((E2.stp S2 t3).stp S3 t4).stp S4 t5
                  have ra5 : KReq C.K (Mt O' ρ5 s5) H5 accP acc := ((ra.map fun h => h.stp S2 t3).map fun h => h.stp S3 t4).map fun h => h.stp S4 t5
                  refine ⟨acc, kk, rfl, hD5, ?_, hN ρ5 s5 _ (putK acc kk z) (dput accP (keyV kk) d) (u5.own h1D) (((t3.trans S2 S3 (t4.trans S3 S4 t5)).x S2 S5).own rfl) (S5.ownO hO hD5 trivial) ?_ upd_same ?_ h⟩
                  · rw [← ra5.len]
                    exact Nat.lt_of_lt_of_le hl (by decide +kernel)
                  · refine ⟨E5.ln, fun i x hx => ?_⟩
                    obtain ⟨u, g1, g2⟩ := E5.sl i x hx
                    refine ⟨u, g1, ?_⟩
                    cases x with
                    | p d => exact RepP.ownO hO hD5 trivial g2
                    | r n => exact g2
                  · exact (ra5.put kk rz).map fun h => h.ownO hO hD5 trivial
                · cases h
          | ex a b c => rw [qv] at h; cases h
          | no => rw [qv] at h; cases h
        | ex a b c => rw [qe] at h; cases h
        | no => rw [qe] at h; cases h
    | ex a b c => rw [qc] at h; cases h
    | no => rw [qc] at h; cases h
  | _ => rw [q] at h; cases h
theorem dc_imp {own : List (Str × Nat)} {σ : Sg} {H : Hp} {Q : VK} (hn : nmT (own.map (·.2)) tg = true) (h0 : TrE C.K W (fun e s => (fi e s).bd fun w s => (dcAll (sem gl F tg) (sem gl F cond) (sem gl F kx) (sem gl F vx) (wipeE e (own.map (·.2))) w s).bd fun kvs s => .ok (.r s.length) (s ++ [.dp 0 kvs])) σ H Q) :
    L2.tDc (TrI C.K W fi) (gE C.K tg) (TrT C.K W0 (cnd (sem gl F cond))) (TrE C.K W0 (sem gl F kx).e) (TrE C.K W0 (sem gl F vx).e) (own.map (·.2)) σ H Q :=
  let ⟨O, ρ, e, st, R, h⟩ := h0; ⟨O, ρ, e, st, R, End.bd R.S h fun w st1 ρ1 H1 J _ s1 S1 r1 h1 D hD => by
    have R1 := R.go s1 S1
    have wid : Wid O (fun a => O a ∨ a = D) H1 := fun a q => q.elim .inl fun q => .inr (q ▸ hD)
    have Sf : RelS C.K (fun _ => False) ρ1 H1 st1 := S1.less fun _ q => q.elim
    have S0 := S1.newOwn (ho := .dK []) hD
    have E0 := (RelE.newOwn (ho := .dK []) S1 R1.E hD).wipe (own.map (·.2))
    have s0 : Stp ρ1 st1 H1 ρ1 st1 (upd H1 D (.dK [])) := Stp.new S1 hD
    have nO : ¬ O D := fun q => S1.al D q hD
    cases w with
    | inr n => exact h1.elim
    | inl vs =>
      have okI : ItOk C.K O ρ1 st1 H1 vs J := r1
      have h2 : End C.K W O (RpV C.K O) ρ1 st1 H1 ((dcL (sem gl F tg).k (cnd (sem gl F cond)) (sem gl F kx).e (sem gl F vx).e (wipeE e (own.map (·.2))) vs [] st1).bd fun kvs s => .ok (.r s.length) (s ++ [.dp 0 kvs])) Q := h1
      refine ⟨fun i k H => k = vs.length - i ∧ ∃ ρ st acc accP kvs s'', Stp ρ1 st1 H1 ρ st H ∧ RelS C.K (fun a => O a ∨ a = D) ρ H st ∧ RelE C.K (fun a => O a ∨ a = D) ρ (wipe σ (own.map (·.2))) H (wipeE e (own.map (·.2))) st ∧ H D = some (.dK acc) ∧ KReq C.K (Mt (fun a => O a ∨ a = D) ρ st) H accP acc ∧
        dcL (sem gl F tg).k (cnd (sem gl F cond)) (sem gl F kx).e (sem gl F vx).e (wipeE e (own.map (·.2))) (vs.drop i) accP st = .ok kvs s'' ∧ End C.K W O (RpV C.K O) ρ1 st1 H1 (.ok (.r s''.length) (s'' ++ [.dp 0 kvs])) Q, ⟨vs.length, by simp, ?_⟩, ?_⟩
      · rcases dcL_ok (tg := (sem gl F tg).k) (cond := cnd (sem gl F cond)) (kx := (sem gl F kx).e) (vx := (sem gl F vx).e) (e := wipeE e (own.map (·.2))) vs [] st1 with ⟨xs, s', q⟩ | q
        · rw [q] at h2
          exact ⟨ρ1, st1, [], [], xs, s', s0, S0, E0, upd_same, .nil, q, h2⟩
        · rw [q] at h2; exact h2.elim
      · rintro i k H ⟨rfl, ρ2, st2, acc, accP, kvs, s'', t2, S2, E2, hD2, ra, hc2, hq⟩
        have oki := okI (fun _ => False) (fun a => O a ∨ a = D) ρ2 st2 H XO.no wid (t2.x S1 S2) S2 i
        by_cases hlt : i < vs.length
        · obtain ⟨g1, g2⟩ := oki.1 vs[i] (by simp [hlt])
          rw [show vs.drop i = vs[i] :: vs.drop (i + 1) from List.drop_eq_getElem_cons hlt] at hc2
          refine .inr ⟨g1, fun H => ∃ ρ st acc accP kvs s'', Stp ρ1 st1 H1 ρ st H ∧ RelS C.K (fun a => O a ∨ a = D) ρ H st ∧ RelE C.K (fun a => O a ∨ a = D) ρ (wipe σ (own.map (·.2))) H (wipeE e (own.map (·.2))) st ∧ H D = some (.dK acc) ∧ KReq C.K (Mt (fun a => O a ∨ a = D) ρ st) H accP acc ∧
            dcL (sem gl F tg).k (cnd (sem gl F cond)) (sem gl F kx).e (sem gl F vx).e (wipeE e (own.map (·.2))) (vs.drop (i + 1)) accP st = .ok kvs s'' ∧ End C.K W O (RpV C.K O) ρ1 st1 H1 (.ok (.r s''.length) (s'' ++ [.dp 0 kvs])) Q, fun H' q => ⟨vs.length - (i + 1), by omega, rfl, q⟩, fun x H' y => ?_⟩
          obtain ⟨u1, u2, u3⟩ := g2 x H' y
          have hD3 : H' D = some (.dK acc) := u1.kp D _ hD2 (fun ⟨n, o, q1, q2, q3⟩ => S2.out n (List.getElem?_eq_some_iff.mp q1).1 (.inr q3)) fun ps z => nomatch z
          exact dc_turn hn (t2.trans Sf (S2.less fun _ q => q.elim) u1) u2 Sf (E2.stp S2 u1) (.inr rfl) hD hD3 (ra.map fun h => h.stp S2 u1) u3 hc2
            fun ρ3 st3 H3 acc3 accP3 v1 _ v2 v3 v4 v6 v7 => ⟨ρ3, st3, acc3, accP3, kvs, s'', v1, v2, v3, v4, v6, v7, hq⟩
        · refine .inl ⟨oki.2 (by omega), ?_⟩
          rw [List.drop_eq_nil_of_le (by omega)] at hc2
          cases hc2
          exact hq _ _ _ (t2.adopt hD) (adoptD S2 (fun _ q => .inl q) (fun _ q => q) (.inr rfl) nO hD2 ra) ⟨by simp, by rw [ext_same]⟩⟩
theorem xDc {iter : Expr} {scope : Scope} {own : List (Str × Nat)} {pos : Pos} {ifs : List Expr} (hc : C.calm = true) (hN : C.N.Nodup) (hi : PI C (toE tg) iter (TrI C.K W fi)) (ok : L2.BlkOk C.N C.env.scope scope own) (hn : nmT (own.map (·.2)) tg = true)
    (hg : ∀ (s : Shared) (H : Hp) (Cc : Addr) (cl : List (Str × Addr)) (fp : List Addr), PG (C.blk s H scope (compEnvC scope cl Cc C.env) fp) (toE tg) (gE C.K tg))
    (ht : ∀ (s : Shared) (H : Hp) (Cc : Addr) (cl : List (Str × Addr)) (fp : List Addr), L2.PTs (C.blk s H scope (compEnvC scope cl Cc C.env) fp) ifs (TrT C.K W0 (cnd (sem gl F cond))))
    (hk : ∀ (s : Shared) (H : Hp) (Cc : Addr) (cl : List (Str × Addr)) (fp : List Addr), PE (C.blk s H scope (compEnvC scope cl Cc C.env) fp) (toE kx) (TrE C.K W0 (sem gl F kx).e))
    (he : ∀ (s : Shared) (H : Hp) (Cc : Addr) (cl : List (Str × Addr)) (fp : List Addr), PE (C.blk s H scope (compEnvC scope cl Cc C.env) fp) (toE vx) (TrE C.K W0 (sem gl F vx).e)) (hs : ∀ x, foldedSetIterable iter C.env x = pure x) :
    PE C (.DictComp (toE kx) (toE vx) [⟨toE tg, iter, ifs, 0⟩] scope pos) (TrE C.K W fun e s => (fi e s).bd fun w s => (dcAll (sem gl F tg) (sem gl F cond) (sem gl F kx) (sem gl F vx) (wipeE e (own.map (·.2))) w s).bd fun kvs s => .ok (.r s.length) (s ++ [.dp 0 kvs])) :=
  imE (L2.pe_dc hc hN hi ok hg ht hk he hs) fun σ H Q h => dc_imp hn h
end
/-! walks -/
section
variable {C : Cx} {W : Str → Option Addr → Hp → Prop} {a : Expr} {fa : En → Sr → R Vl} {tg : Expr}
/-- behind an expression the dict that it told is locked -/
def tLk (t : TE) : TE := fun σ H Q => t σ H fun v H1 => ∃ d ks, v = .ref d ∧ ((∃ od, H1 d = some (.frz od (.dK ks)) ∧ Q v H1) ∨ (H1 d = some (.dK ks) ∧ ∀ od, Q v (upd H1 d (.frz od (.dK ks)))))
theorem pe_lk {t : TE} (h : PE C a t) : PE C a (tLk t) := ⟨fun pins s σ H Q I hw => L2.thn (h.run pins s σ H _ I hw) fun u s1 ⟨v, H1, I1, r, d, ks, e, q⟩ => by
  rcases q with ⟨od, h1, q⟩ | ⟨h1, q⟩
  · exact ⟨v, H1, I1, r, q⟩
  · obtain ⟨od, I2⟩ := I1.lock h1 trivial
    exact ⟨v, _, I2, r, q od⟩⟩
/-- a locked dict, walked -/
theorem itK {K : Fg} {O : Addr → Prop} {ρ : Nat → Addr} {st : Sr} {H : Hp} {n k : Nat} {od : Obj} {kvs : List (P × P)} {ks : List (Key × V)} (S : RelS K O ρ H st) (hn : st[n]? = some (.dp (k + 1) kvs)) (hd : H (ρ n) = some (.frz od (.dK ks))) (r : KReq K (Mt O ρ st) H kvs ks) :
    ItOk K O ρ st H (wkL false kvs) (L2.Itk (ρ n) od ks) ∧ ItOk K O ρ st H (wkL true kvs) (L2.Iti (ρ n) od ks) := by
  have nl : ¬ live ρ st (ρ n) := fun ⟨m, o, q1, q2, q3⟩ => by
    have := S.inj m n (List.getElem?_eq_some_iff.mp q1).1 (List.getElem?_eq_some_iff.mp hn).1 q3
    subst this
    rw [hn] at q1
    cases q1
    simp [isLive] at q2
  have nx : ∀ {Xo : Addr → Prop}, XO Xo O H → ¬ Xo (ρ n) := fun xo q => by
    rcases xo.t _ q with ⟨ws, e⟩ | ⟨ws, e⟩ <;> (rw [hd] at e; cases e)
  have ll : ks.length = kvs.length := r.len.symm
  refine ⟨fun Xo O' ρ' st' H' xo w s S' i => ?_, fun Xo O' ρ' st' H' xo w s S' i => ?_⟩
  · have hd' : H' (ρ n) = some (.frz od (.dK ks)) := s.kp _ _ hd nl (nx xo) fun ps z => nomatch z
    refine ⟨fun v hv => ?_, fun hi => ⟨hd', by simpa [wkL, ll] using hi⟩⟩
    obtain ⟨q, hq, rfl⟩ : ∃ q, kvs[i]? = some q ∧ v = .p q.1 := by
      rw [wkL, List.getElem?_map] at hv
      obtain ⟨q, h1, h2⟩ := Option.map_eq_some_iff.mp hv
      exact ⟨q, h1, h2.symm⟩
    obtain ⟨kk, u, h1, h2, h3⟩ := r.at hq
    refine ⟨⟨hd', (List.getElem?_eq_some_iff.mp h1).1⟩, fun x H'' ⟨e1, k', v', e2, e3⟩ => ?_⟩
    subst e1 e3
    rw [h1] at e2
    cases e2
    refine ⟨.rfl, S', ?_⟩
    rw [h2]
    exact rep_key
  · have hd' : H' (ρ n) = some (.frz od (.dK ks)) := s.kp _ _ hd nl (nx xo) fun ps z => nomatch z
    refine ⟨fun v hv => ?_, fun hi => ⟨hd', by simpa [wkL, ll] using hi⟩⟩
    obtain ⟨q, hq, rfl⟩ : ∃ q, kvs[i]? = some q ∧ v = .p (.tuple [q.1, q.2]) := by
      rw [wkL, List.getElem?_map] at hv
      obtain ⟨q, h1, h2⟩ := Option.map_eq_some_iff.mp hv
      exact ⟨q, h1, h2.symm⟩
    obtain ⟨kk, u, h1, h2, h3⟩ := r.at hq
    refine ⟨⟨hd', (List.getElem?_eq_some_iff.mp h1).1⟩, fun x H'' ⟨p, k', v', e2, e3, e4, e5⟩ => ?_⟩
    subst e3 e5
    rw [h1] at e2
    cases e2
    refine ⟨Stp.new S' e4, S'.new e4, ?_⟩
    rw [h2]
    exact rep_newT S' e4 (.cons rep_key (.cons (RepP.goX S xo w s h3) .nil))
theorem wk_lk {b : Bool} {J : Addr → Obj → List (Key × V) → It} (hJ : J = if b then L2.Iti else L2.Itk) {σ : Sg} {H : Hp} {Rq : It → Hp → Prop} (h : TrI C.K W (fun e s => (fa e s).bd fun v s => wkV b v s) σ H Rq)
    {Kq : VK} (hK : ∀ d o kvs H1, H1 d = some (.frz o (.dK kvs)) → Rq (J d o kvs) H1 → Kq (.ref d) H1) : tLk (TrE C.K W fa) σ H Kq := by
  obtain ⟨O, ρ, e, st, R, h⟩ := h
  refine ⟨O, ρ, e, st, R, End.bd R.S h fun x st1 ρ1 H1 v _ s1 S1 r1 h1 => ?_⟩
  unfold wkV at h1
  split at h1
  · rename_i n _
    obtain ⟨hn, rfl⟩ := r1
    split at h1
    · rename_i kvs q
      obtain ⟨w, f1, ks, f2, f3⟩ := S1.ob n _ q
      rcases f2 with ⟨_, rfl⟩ | ⟨z, _⟩
      · refine ⟨_, ks, rfl, .inr ⟨f1, fun od => hK _ od ks _ upd_same ?_⟩⟩
        have s : Stp ρ1 st1 H1 ρ1 (st1.set n (.dp 1 kvs)) (L2.upd H1 (ρ1 n) (.frz od (.dK ks))) := Stp.upd q rfl (fun _ z => nomatch z) (fun _ _ z => nomatch z) (fun _ _ _ => ⟨_, _, rfl⟩) S1
        have f3' := f3.map fun h => h.stp S1 s
        have S2 := S1.upd q s ⟨ks, .inr ⟨by simp, od, rfl⟩, f3'⟩
        have hst : (st1.set n (.dp 1 kvs))[n]? = some (.dp 1 kvs) := by rw [List.getElem?_set_self hn]
        obtain ⟨i1, i2⟩ := itK (k := 0) S2 hst upd_same f3'
        refine h1 ρ1 _ _ s S2 ?_
        subst hJ
        cases b with
        | false => exact i1
        | true => exact i2
      · exact absurd rfl z
    · rename_i k kvs q
      obtain ⟨w, f1, ks, f2, f3⟩ := S1.ob n _ q
      rcases f2 with ⟨z, _⟩ | ⟨z, od, rfl⟩
      · cases z
      · refine ⟨_, ks, rfl, .inl ⟨od, f1, hK _ od ks _ f1 ?_⟩⟩
        obtain ⟨i1, i2⟩ := itK S1 q f1 f3
        refine h1 ρ1 _ _ .rfl S1 ?_
        subst hJ
        cases b with
        | false => exact i1
        | true => exact i2
    · exact h1.elim
  · exact h1.elim
theorem iDwk (ha : PE C a (TrE C.K W fa)) : PI C tg a (TrI C.K W fun e s => (fa e s).bd fun v s => wkV false v s) :=
  imI (L2.pi_keys (pe_lk ha)) fun σ H Q h => wk_lk (b := false) rfl h fun d o kvs H1 h1 h2 => ⟨d, o, rfl, .inl ⟨kvs, h1, h2⟩⟩
theorem iItm {T0 : T} {elts : List Expr} {kk : Nat} {tpos p0 pos : Pos} (hb : ∀ (nm : Str), attributeBase (toE T0) nm C.env (eval (toE T0) C.env) = eval (toE T0) C.env) (hl : (p0.endLine == pos.line) = true) (ha : PE C (toE T0) (TrE C.K W fa)) :
    PI C (.Tuple elts kk tpos) (.Call (.Attribute (toE T0) "items" p0) [] [] pos) (TrI C.K W fun e s => (fa e s).bd fun v s => wkV true v s) :=
  imI (L2.pi_items (pe_lk ha) (hb _) hl) fun σ H Q h => wk_lk (b := true) rfl h fun d o kvs H1 h1 h2 => ⟨d, o, kvs, rfl, h1, h2⟩
end
end Mi
end
section
set_option Elab.async false
set_option linter.all false
set_option maxRecDepth 100000
set_option maxHeartbeats 2000000
/-! D5: a name, a new dict on one line. -/
namespace Mi
open PySem
open L2 (V HO Hp upd upd_same upd_ne SqL SqT Rd Cx Inv PE PT PA PS PSs PG PGs PI TE TT TA TS TG TGs TI It VK XK Ends RelV Vals ne_of_none OpR R2 EP CallR UnR IxR SlR TruR Gl Vis Loc Itl Itt Itr wipe Key valV putK DGet DPut mixKind)
section
variable {C : Cx} {W : Str → Option Addr → Hp → Prop} {fi : En → Sr → R (List Vl ⊕ Nat)} {gl : List P} {F : Nat → List Vl → Sr → R Vl} {tg cond kx vx : T}
theorem ps_dc1 {i : Nat} {y : Str} {py : Pos} {kx vx tg iter : Expr} {ifs : List Expr} {sc : Scope} {own : List (Str × Nat)} {pos spos : Pos} {wi : TI} {g : TG} {tt : TT} {tk tv : TE}
    (h1 : C.calm = true) (h2 : C.N.Nodup) (h3 : C.N[i]? = some y) (h4 : C.env.scope.names.lookup y = some .local)
    (h5 : swapsWith (.DictComp kx vx [⟨tg, iter, ifs, 0⟩] sc pos) (some (.Name y py)) spos.line C.env = pure true) (h6 : PI C tg iter wi) (h7 : L2.BlkOk C.N C.env.scope sc own)
    (hg : ∀ s H Cc cl fp, PG (C.blk s H sc (compEnvC sc cl Cc C.env) fp) tg g)
    (ht : ∀ s H Cc cl fp, L2.PTs (C.blk s H sc (compEnvC sc cl Cc C.env) fp) ifs tt)
    (hk : ∀ s H Cc cl fp, PE (C.blk s H sc (compEnvC sc cl Cc C.env) fp) kx tk)
    (he : ∀ s H Cc cl fp, PE (C.blk s H sc (compEnvC sc cl Cc C.env) fp) vx tv) (hs : ∀ x, foldedSetIterable iter C.env x = pure x) :
    PS C (.Assign [.Name y py] (.DictComp kx vx [⟨tg, iter, ifs, 0⟩] sc pos) spos) (L2.tAsg (L2.tDc wi g tt tk tv (own.map (·.2))) (L2.gName i)) := by
  constructor
  intro pins s σ H D I q
  rw [exec_Assign_Name_used _ _ _ _ h5]
  apply wpAny_bind
  apply wpAny_standAt
  apply wpAny_bind
  show wpAny _ C.A (do let _ ← comprehension (.DictComp kx vx [⟨tg, iter, ifs, 0⟩] sc pos) sc C.env (firstIterPos [⟨tg, iter, ifs, 0⟩] pos) newDict false (eval iter C.env) (some (assign (.Name y py) C.env))) _ _ s
  have q' : L2.tDc wi g tt tk tv (own.map (·.2)) σ H (fun x H1 => L2.gName i x σ H1 D.nx) := q
  apply wpAny_bind
  refine L2.thn (L2.dc_core (Qf := fun _ s' => L2.SP C pins D .next s') h1 h2 I h6 h7 hg ht hk he hs q' ?_) fun _ s' z => wpAny_pure (wpAny_pure z)
  intro L Cc s' m H' I' qq hn f
  show wpAny _ _ (assign (.Name y py) C.env (.ref L)) _ _ _
  apply wpAny_assign_Name
  refine L2.store_ok2 (v := V.ref L) I' h2 h3 (.inl h4) rfl ?_ (.inr h4)
  rintro s2 I2 ⟨a, sb, ha⟩
  have ne : Cc ≠ a := by
    rcases ha with z | z
    · rw [z]; exact f.2.1
    · exact fun e => f.2.2.2.2.1 y a z e.symm
  refine ⟨m, hn.sameBut sb ne, fun h3 sb3 => ⟨_, H', ?_, qq⟩⟩
  exact I2.turned (t' := s2.toks) (fun b o hb e => (sb3.2 b hb).trans e) f.1 f.2.1 f.2.2.2.1 f.2.2.2.2.1 f.2.2.2.2.2
theorem dc_sw {kx vx : Expr} {gs : List Comprehension} {sc : Scope} {pos py : Pos} {y : Str} {l : Nat} {env : Env} (hk : env.scope.kind = .function) (hy : env.scope.names.lookup y = some .local) (hl : (py.line == pos.line) = true)
    (ha : (sc.names.any fun (n, k) => n == y && (k == .local || k == .cell)) = false) : swapsWith (.DictComp kx vx gs sc pos) (some (.Name y py)) l env = pure true := by
  have e1 : env.kindOf y = some .local := hy
  have e2 : env.blockKind = .function := by unfold Env.blockKind; rw [hk]; rfl
  unfold swapsWith
  simp only [e1, e2, ha, hl, Expr.pos]
  rfl
theorem sDc {iter : Expr} {sc : Scope} {own : List (Str × Nat)} {pos spos py : Pos} {ifs : List Expr} {i : Nat} {y : Str} (hc : C.calm = true) (hN : C.N.Nodup) (hy : C.N[i]? = some y) (hyl : C.env.scope.names.lookup y = some .local)
    (hsw : swapsWith (.DictComp (toE kx) (toE vx) [⟨toE tg, iter, ifs, 0⟩] sc pos) (some (.Name y py)) spos.line C.env = pure true)
    (hi : PI C (toE tg) iter (TrI C.K W fi)) (ok : L2.BlkOk C.N C.env.scope sc own) (hn : nmT (own.map (·.2)) tg = true)
    (hg : ∀ s H Cc cl fp, PG (C.blk s H sc (compEnvC sc cl Cc C.env) fp) (toE tg) (gE C.K tg))
    (ht : ∀ s H Cc cl fp, L2.PTs (C.blk s H sc (compEnvC sc cl Cc C.env) fp) ifs (TrT C.K W0 (cnd (sem gl F cond))))
    (hk : ∀ s H Cc cl fp, PE (C.blk s H sc (compEnvC sc cl Cc C.env) fp) (toE kx) (TrE C.K W0 (sem gl F kx).e))
    (he : ∀ s H Cc cl fp, PE (C.blk s H sc (compEnvC sc cl Cc C.env) fp) (toE vx) (TrE C.K W0 (sem gl F vx).e)) (hs : ∀ x, foldedSetIterable iter C.env x = pure x) :
    PS C (.Assign [.Name y py] (.DictComp (toE kx) (toE vx) [⟨toE tg, iter, ifs, 0⟩] sc pos) spos) (TrS C.K W fun e s => ((fi e s).bd fun w s => (dcAll (sem gl F tg) (sem gl F cond) (sem gl F kx) (sem gl F vx) (wipeE e (own.map (·.2))) w s).bd fun kvs s => .ok (.r s.length) (s ++ [.dp 0 kvs])).bx fun v s => kV i v e s) :=
  imS (ps_dc1 hc hN hy hyl hsw hi ok hg ht hk he hs) fun D σ H ⟨O, ρ, e, st, R, h⟩ => dc_imp hn ⟨O, ρ, e, st, R, End.bx R.S h fun x st1 ρ1 H1 v _ s1 S1 r1 h1 => h1 ρ1 _ H1 .rfl ⟨S1, (R.go s1 S1).E.set r1 i⟩⟩
end
end Mi
end
section
set_option Elab.async false
set_option linter.all false
set_option maxRecDepth 100000
set_option maxHeartbeats 1000000
/-! N14: list comprehensions of two clauses. -/
namespace Mi
open PySem
open L2 (V HO Hp upd upd_same upd_ne SqL SqT Rd Cx Inv PE PT PA PS PSs PG PGs PI TE TT TA TS TG TGs TI It VK XK Ends RelV Vals ne_of_none OpR R2 EP CallR UnR IxR SlR TruR Gl Vis Loc Itl Itt Itr wipe)
section
variable {C : Cx} {W : Str → Option Addr → Hp → Prop} {fi : En → Sr → R (List Vl ⊕ Nat)} {gl : List P} {F : Nat → List Vl → Sr → R Vl} {tg cond elt tg1 it1 cond1 : T}
theorem cpK_ok {tg : Vl → En → Sr → X} {cond : En → Sr → R Bool} {elt : En → Sr → R Vl} {e : En} {rest : Sr → R (List P)} (h : ∀ s, (∃ xs s', rest s = .ok xs s') ∨ rest s = .no) : ∀ (vs : List Vl) (s : Sr), (∃ xs s', cpK tg cond elt e vs rest s = .ok xs s') ∨ cpK tg cond elt e vs rest s = .no
  | [], s => h s
  | v :: r, s => cpT_ok (cpK_ok h r)
theorem cp2T_ok {α : Type} {tg : Vl → En → Sr → X} {cond : En → Sr → R Bool} {it1 : En → Sr → R (List Vl ⊕ Nat)} {own1 : List Nat} {e : En} {v : Vl} {s : Sr} {inn : En → List Vl → Sr → R α} {rest : Sr → R α} (h : ∀ s, (∃ xs s', rest s = .ok xs s') ∨ rest s = .no)
    (hi : ∀ e vs s, (∃ xs s', inn e vs s = .ok xs s') ∨ inn e vs s = .no) : (∃ xs s', cp2T tg cond it1 own1 e v s inn rest = .ok xs s') ∨ cp2T tg cond it1 own1 e v s inn rest = .no := by
  unfold cp2T
  split
  · split
    · split
      · exact hi _ _ _
      · exact .inr rfl
    · exact h _
    · exact .inr rfl
  · exact .inr rfl
theorem cp2L_ok {tg : Vl → En → Sr → X} {cond : En → Sr → R Bool} {it1 : En → Sr → R (List Vl ⊕ Nat)} {tg1 : Vl → En → Sr → X} {cond1 : En → Sr → R Bool} {elt : En → Sr → R Vl} {own1 : List Nat} {e : En} : ∀ (vs : List Vl) (s : Sr), (∃ xs s', cp2L tg cond it1 tg1 cond1 elt own1 e vs s = .ok xs s') ∨ cp2L tg cond it1 tg1 cond1 elt own1 e vs s = .no
  | [], s => .inl ⟨[], s, rfl⟩
  | v :: r, s => cp2T_ok (cp2L_ok r) fun e vs s => cpK_ok (cp2L_ok r) vs s
theorem cp2_imp {m : Bool} {own : List (Str × Nat)} {own1 : List Nat} {σ : Sg} {H : Hp} {Q : VK} (hn : nmT (own.map (·.2)) tg = true) (hn1 : nmT own1 tg1 = true) (hv : ∀ i ∈ own1, i ∈ own.map (·.2))
    (h0 : TrE C.K W (fun e s => (fi e s).bd fun w s => (cp2All (sem gl F tg) (sem gl F cond) (sem gl F it1) (sem gl F tg1) (sem gl F cond1) (sem gl F elt) own1 (wipeE e (own.map (·.2))) w s).bd fun xs s => mkLs2 m xs s) σ H Q) :
    L2.tLc2 (TrI C.K W fi) (gE C.K tg) (TrT C.K W0 (cnd (sem gl F cond))) (TrI C.K W0 (sem gl F it1).i) (gE C.K tg1) (TrT C.K W0 (cnd (sem gl F cond1))) (TrE C.K W0 (sem gl F elt).e) (own.map (·.2)) own1 σ H Q :=
  let ⟨O, ρ, e, st, R, h⟩ := h0; ⟨O, ρ, e, st, R, End.bd R.S h fun w st1 ρ1 H1 J _ s1 S1 r1 h1 D hD => by
    have R1 := R.go s1 S1
    have wid : Wid O (fun a => O a ∨ a = D) H1 := fun a q => q.elim .inl fun q => .inr (q ▸ hD)
    have Sf : RelS C.K (fun _ => False) ρ1 H1 st1 := S1.less fun _ q => q.elim
    have S0 := S1.newOwn (ho := .lst []) hD
    have E0 := (RelE.newOwn (ho := .lst []) S1 R1.E hD).wipe (own.map (·.2))
    have s0 : Stp ρ1 st1 H1 ρ1 st1 (upd H1 D (.lst [])) := Stp.new S1 hD
    have le1 : lim < sizeLine := by decide +kernel
    generalize how : own.map (·.2) = ow at *
    cases w with
    | inr n => exact h1.elim
    | inl vs =>
      have okI : ItOk C.K O ρ1 st1 H1 vs J := r1
      have h2 : End C.K W O (RpV C.K O) ρ1 st1 H1 ((cp2L (sem gl F tg).k (cnd (sem gl F cond)) (sem gl F it1).i (sem gl F tg1).k (cnd (sem gl F cond1)) (sem gl F elt).e own1 (wipeE e ow) vs st1).bd fun xs s => mkLs2 m xs s) Q := h1
      have fin : ∀ {ys : List P} {s : Sr}, End C.K W O (RpV C.K O) ρ1 st1 H1 (mkLs2 m ys s) Q → ys.length ≤ lim ∧ End C.K W O (RpV C.K O) ρ1 st1 H1 (mkLst m ys s) Q := fun {ys s} h => by
        unfold mkLs2 at h
        split at h
        · rename_i hz
          exact ⟨hz, h⟩
        · exact h.elim
      have nl : ∀ {ρ : Nat → Addr} {st : Sr} {H : Hp}, RelS C.K (fun a => O a ∨ a = D) ρ H st → ¬ live ρ st D := fun S ⟨n, o, q1, q2, q3⟩ => S.out n (List.getElem?_eq_some_iff.mp q1).1 (.inr q3)
      refine ⟨fun i k H => k = vs.length - i ∧ ∃ ρ st acc accP xs s'', Stp ρ1 st1 H1 ρ st H ∧ RelS C.K (fun a => O a ∨ a = D) ρ H st ∧ RelE C.K (fun a => O a ∨ a = D) ρ (wipe σ ow) H (wipeE e ow) st ∧ H D = some (.lst acc) ∧ ReqP C.K (Mt (fun a => O a ∨ a = D) ρ st) H accP acc ∧
        cp2L (sem gl F tg).k (cnd (sem gl F cond)) (sem gl F it1).i (sem gl F tg1).k (cnd (sem gl F cond1)) (sem gl F elt).e own1 (wipeE e ow) (vs.drop i) st = .ok xs s'' ∧ End C.K W O (RpV C.K O) ρ1 st1 H1 (mkLs2 m (accP ++ xs) s'') Q, ⟨vs.length, by simp, ?_⟩, ?_⟩
      · rcases cp2L_ok (tg := (sem gl F tg).k) (cond := cnd (sem gl F cond)) (it1 := (sem gl F it1).i) (tg1 := (sem gl F tg1).k) (cond1 := cnd (sem gl F cond1)) (elt := (sem gl F elt).e) (own1 := own1) (e := wipeE e ow) vs st1 with ⟨xs, s', q⟩ | q
        · rw [q] at h2
          exact ⟨ρ1, st1, [], [], xs, s', s0, S0, E0, upd_same, .nil, q, h2⟩
        · rw [q] at h2; exact h2.elim
      · rintro i k H ⟨rfl, ρ2, st2, acc, accP, xs, s'', t2, S2, E2, hD2, ra, hc2, hq⟩
        have oki := okI (fun _ => False) (fun a => O a ∨ a = D) ρ2 st2 H XO.no wid (t2.x S1 S2) S2 i
        by_cases hlt : i < vs.length
        · obtain ⟨g1, g2⟩ := oki.1 vs[i] (by simp [hlt])
          rw [show vs.drop i = vs[i] :: vs.drop (i + 1) from List.drop_eq_getElem_cons hlt] at hc2
          refine .inr ⟨g1, fun H => ∃ ρ st acc accP xs s'', Stp ρ1 st1 H1 ρ st H ∧ RelS C.K (fun a => O a ∨ a = D) ρ H st ∧ RelE C.K (fun a => O a ∨ a = D) ρ (wipe σ ow) H (wipeE e ow) st ∧ H D = some (.lst acc) ∧ ReqP C.K (Mt (fun a => O a ∨ a = D) ρ st) H accP acc ∧
            cp2L (sem gl F tg).k (cnd (sem gl F cond)) (sem gl F it1).i (sem gl F tg1).k (cnd (sem gl F cond1)) (sem gl F elt).e own1 (wipeE e ow) (vs.drop (i + 1)) st = .ok xs s'' ∧ End C.K W O (RpV C.K O) ρ1 st1 H1 (mkLs2 m (accP ++ xs) s'') Q, fun H' q => ⟨vs.length - (i + 1), by omega, rfl, q⟩, fun x H' y => ?_⟩
          obtain ⟨u1, u2, u3⟩ := g2 x H' y
          have hD3 : H' D = some (.lst acc) := u1.kp D _ hD2 (nl S2) fun ps z => nomatch z
          have E3 := E2.stp S2 u1
          have ra3 := ra.stp S2 u1
          have t3 := t2.trans Sf (S2.less fun _ q => q.elim) u1
          have hc2 : cp2T (sem gl F tg).k (cnd (sem gl F cond)) (sem gl F it1).i own1 (wipeE e ow) vs[i] st2 (fun e1 ws => cpK (sem gl F tg1).k (cnd (sem gl F cond1)) (sem gl F elt).e e1 ws (cp2L (sem gl F tg).k (cnd (sem gl F cond)) (sem gl F it1).i (sem gl F tg1).k (cnd (sem gl F cond1)) (sem gl F elt).e own1 (wipeE e ow) (vs.drop (i + 1)))) (cp2L (sem gl F tg).k (cnd (sem gl F cond)) (sem gl F it1).i (sem gl F tg1).k (cnd (sem gl F cond1)) (sem gl F elt).e own1 (wipeE e ow) (vs.drop (i + 1))) = .ok xs s'' := hc2
          generalize hrest : cp2L (sem gl F tg).k (cnd (sem gl F cond)) (sem gl F it1).i (sem gl F tg1).k (cnd (sem gl F cond1)) (sem gl F elt).e own1 (wipeE e ow) (vs.drop (i + 1)) = rest at *
          unfold cp2T at hc2
          cases q : (sem gl F tg).k vs[i] (wipeE e ow) st2 with
          | nx e1 sx =>
            rw [q] at hc2
            have e0 := (gE_st gl F ow tg _ e1 st2 sx _ hn q).symm
            subst e0
            have ew := gE_we gl F ow tg _ e1 st2 st2 _ hn q
            rw [wipeE_wipeE] at ew
            dsimp only at hc2
            refine gE_ok gl F ow tg (wipe σ ow) _ e1 vs[i] x hn E3 u3 q fun σ' E' w' => ⟨by rw [w', wipe_wipe], ?_⟩
            rw [wipe_wipe] at w'
            have R' : Rel C.K (fun a => O a ∨ a = D) ρ2 σ' H' e1 st2 := ⟨u2, E'⟩
            refine ⟨_, ρ2, e1, st2, R', ?_⟩
            cases qc : cnd (sem gl F cond) e1 st2 with
            | ok b s3 =>
              rw [qc] at hc2
              intro ρ3 H3 b' t4 S3 rb
              cases (show b = b' from rb)
              have R3 := R'.go t4 S3
              have hD4 : H3 D = some (.lst acc) := t4.kp D _ hD3 (nl u2) fun ps z => nomatch z
              have t5 := t3.trans Sf (u2.less fun _ q => q.elim) t4
              cases b with
              | false => exact ⟨ρ3, s3, acc, accP, xs, s'', t5, S3, E3.stp u2 t4, hD4, ra3.stp u2 t4, hc2, hq⟩
              | true =>
                dsimp only at hc2
                refine ⟨_, ρ3, e1, s3, R3, ?_⟩
                cases qi : (sem gl F it1).i e1 s3 with
                | ok w s4 =>
                  rw [qi] at hc2
                  intro ρ4 H4 J1 t6 S4 rI
                  cases w with
                  | inr n => cases hc2
                  | inl ws =>
                    dsimp only at hc2
                    have rI : ItOk C.K (fun a => O a ∨ a = D) ρ4 s4 H4 ws J1 := rI
                    have hD5 : H4 D = some (.lst acc) := t6.kp D _ hD4 (nl S3) fun ps z => nomatch z
                    have t7 := t5.trans Sf (S3.less fun _ q => q.elim) t6
                    have xo : XO (fun a => a = D) (fun a => O a ∨ a = D) H4 := ⟨fun a h => .inr h, fun a h => .inl ⟨acc, by rw [h]; exact hD5⟩⟩
                    refine ⟨fun j k H => k = ws.length - j ∧ ∃ ρ st acc accP xs s'', StpX (fun a => a = D) ρ4 s4 H4 ρ st H ∧ Stp ρ1 st1 H1 ρ st H ∧ RelS C.K (fun a => O a ∨ a = D) ρ H st ∧ RelE C.K (fun a => O a ∨ a = D) ρ (wipe σ' own1) H (wipeE e1 own1) st ∧ H D = some (.lst acc) ∧ ReqP C.K (Mt (fun a => O a ∨ a = D) ρ st) H accP acc ∧
                      cpK (sem gl F tg1).k (cnd (sem gl F cond1)) (sem gl F elt).e (wipeE e1 own1) (ws.drop j) rest st = .ok xs s'' ∧ End C.K W O (RpV C.K O) ρ1 st1 H1 (mkLs2 m (accP ++ xs) s'') Q, ⟨ws.length, by simp, ρ4, s4, acc, accP, xs, s'', .rfl, t7, S4, (R3.E.stp S3 t6).wipe own1, hD5, (ra3.stp u2 t4).stp S3 t6, hc2, hq⟩, ?_⟩
                    rintro j k H5 ⟨rfl, ρ5, st5, acc5, accP5, xs5, s5, x5, t8, S5, E5, hD6, ra5, hc5, hq5⟩
                    have okj := rI (fun a => a = D) (fun a => O a ∨ a = D) ρ5 st5 H5 xo .rfl x5 S5 j
                    by_cases hlj : j < ws.length
                    · obtain ⟨g3, g4⟩ := okj.1 ws[j] (by simp [hlj])
                      rw [show ws.drop j = ws[j] :: ws.drop (j + 1) from List.drop_eq_getElem_cons hlj] at hc5
                      refine .inr ⟨g3, fun H => ∃ ρ st acc accP xs s'', StpX (fun a => a = D) ρ4 s4 H4 ρ st H ∧ Stp ρ1 st1 H1 ρ st H ∧ RelS C.K (fun a => O a ∨ a = D) ρ H st ∧ RelE C.K (fun a => O a ∨ a = D) ρ (wipe σ' own1) H (wipeE e1 own1) st ∧ H D = some (.lst acc) ∧ ReqP C.K (Mt (fun a => O a ∨ a = D) ρ st) H accP acc ∧
                        cpK (sem gl F tg1).k (cnd (sem gl F cond1)) (sem gl F elt).e (wipeE e1 own1) (ws.drop (j + 1)) rest st = .ok xs s'' ∧ End C.K W O (RpV C.K O) ρ1 st1 H1 (mkLs2 m (accP ++ xs) s'') Q, fun H' q => ⟨ws.length - (j + 1), by omega, rfl, q⟩, fun x H' y => ?_⟩
                      obtain ⟨v1, v2, v3⟩ := g4 x H' y
                      have hD7 : H' D = some (.lst acc5) := v1.kp D _ hD6 (nl S5) fun ps z => nomatch z
                      have hz : acc5.length < sizeLine := by
                        have a1 := (fin hq5).1
                        rw [List.length_append] at a1
                        have a2 := ra5.len
                        omega
                      exact cp_turn hn1 (fun _ _ _ => trivial) (t8.trans Sf (S5.less fun _ q => q.elim) v1) v2 Sf (E5.stp S5 v1) (.inr rfl) hD hD7 hz (ra5.stp S5 v1) v3 hc5
                        fun ρ6 st6 H6 acc6 accP6 ys a1 ax a2 a3 a4 a5 a6 a7 a8 => ⟨ρ6, st6, acc6, accP6, ys, s5, (x5.trans (v1.x S5 v2)).trans ax, a1, a2, a3, a4, a6, a7, by rw [a8]; exact hq5⟩
                    · refine .inl ⟨okj.2 (by omega), ?_⟩
                      rw [List.drop_eq_nil_of_le (by omega)] at hc5
                      have E6 := E5.wipe ow
                      rw [wipe_sub hv, wipeE_sub hv, ew, w'] at E6
                      exact ⟨ρ5, st5, acc5, accP5, xs5, s5, t8, S5, E6, hD6, ra5, hc5, hq5⟩
                | ex a b c => rw [qi] at hc2; cases hc2
                | no => rw [qi] at hc2; cases hc2
            | ex a b c => rw [qc] at hc2; cases hc2
            | no => rw [qc] at hc2; cases hc2
          | _ => rw [q] at hc2; cases hc2
        · refine .inl ⟨oki.2 (by omega), ?_⟩
          rw [List.drop_eq_nil_of_le (by omega)] at hc2
          cases hc2
          rw [List.append_nil] at hq
          exact cp_end S1 (fin hq).2 hD t2 S2 hD2 ra⟩
theorem xCp2 {iter : Expr} {scope : Scope} {own : List (Str × Nat)} {own1 : List Nat} {pos : Pos} {m : Bool} {ifs ifs1 : List Expr} (hc : C.calm = true) (hN : C.N.Nodup) (hi : PI C (toE tg) iter (TrI C.K W fi)) (ok : L2.BlkOk C.N C.env.scope scope own) (hn : nmT (own.map (·.2)) tg = true) (hn1 : nmT own1 tg1 = true) (hv : ∀ i ∈ own1, i ∈ own.map (·.2))
    (hg : ∀ (s : Shared) (H : Hp) (Cc : Addr) (cl : List (Str × Addr)) (fp : List Addr), PG (C.blk s H scope (compEnvC scope cl Cc C.env) fp) (toE tg) (gE C.K tg))
    (ht : ∀ (s : Shared) (H : Hp) (Cc : Addr) (cl : List (Str × Addr)) (fp : List Addr), L2.PTs (C.blk s H scope (compEnvC scope cl Cc C.env) fp) ifs (TrT C.K W0 (cnd (sem gl F cond))))
    (hi1 : ∀ (s : Shared) (H : Hp) (Cc : Addr) (cl : List (Str × Addr)) (fp : List Addr), PI (C.blk s H scope (compEnvC scope cl Cc C.env) fp) (toE tg1) (toE it1) (TrI C.K W0 (sem gl F it1).i))
    (hg1 : ∀ (s : Shared) (H : Hp) (Cc : Addr) (cl : List (Str × Addr)) (fp : List Addr), PG (C.blk s H scope (compEnvC scope cl Cc C.env) fp) (toE tg1) (gE C.K tg1))
    (ht1 : ∀ (s : Shared) (H : Hp) (Cc : Addr) (cl : List (Str × Addr)) (fp : List Addr), L2.PTs (C.blk s H scope (compEnvC scope cl Cc C.env) fp) ifs1 (TrT C.K W0 (cnd (sem gl F cond1))))
    (he : ∀ (s : Shared) (H : Hp) (Cc : Addr) (cl : List (Str × Addr)) (fp : List Addr), PE (C.blk s H scope (compEnvC scope cl Cc C.env) fp) (toE elt) (TrE C.K W0 (sem gl F elt).e)) (hs : ∀ x, foldedSetIterable iter C.env x = pure x) (hs1 : ∀ env x, foldedSetIterable (toE it1) env x = pure x) :
    PE C (.ListComp (toE elt) [⟨toE tg, iter, ifs, 0⟩, ⟨toE tg1, toE it1, ifs1, 0⟩] scope pos) (TrE C.K W fun e s => (fi e s).bd fun w s => (cp2All (sem gl F tg) (sem gl F cond) (sem gl F it1) (sem gl F tg1) (sem gl F cond1) (sem gl F elt) own1 (wipeE e (own.map (·.2))) w s).bd fun xs s => mkLs2 m xs s) :=
  imE (L2.pe_lc2 hc hN hi ok hv hg ht hi1 hg1 ht1 he hs hs1) fun σ H Q h => cp2_imp hn hn1 hv h
/-- a name, the new list on the same line -/
theorem sLc2 {iter : Expr} {scope : Scope} {own : List (Str × Nat)} {own1 : List Nat} {pos spos py : Pos} {m : Bool} {ifs ifs1 : List Expr} {i : Nat} {y : Str} (hc : C.calm = true) (hN : C.N.Nodup) (hy : C.N[i]? = some y) (hyl : C.env.scope.names.lookup y = some .local)
    (hsw : swapsWith (.ListComp (toE elt) [⟨toE tg, iter, ifs, 0⟩, ⟨toE tg1, toE it1, ifs1, 0⟩] scope pos) (some (.Name y py)) spos.line C.env = pure true)
    (hi : PI C (toE tg) iter (TrI C.K W fi)) (ok : L2.BlkOk C.N C.env.scope scope own) (hn : nmT (own.map (·.2)) tg = true) (hn1 : nmT own1 tg1 = true) (hv : ∀ i ∈ own1, i ∈ own.map (·.2))
    (hg : ∀ (s : Shared) (H : Hp) (Cc : Addr) (cl : List (Str × Addr)) (fp : List Addr), PG (C.blk s H scope (compEnvC scope cl Cc C.env) fp) (toE tg) (gE C.K tg))
    (ht : ∀ (s : Shared) (H : Hp) (Cc : Addr) (cl : List (Str × Addr)) (fp : List Addr), L2.PTs (C.blk s H scope (compEnvC scope cl Cc C.env) fp) ifs (TrT C.K W0 (cnd (sem gl F cond))))
    (hi1 : ∀ (s : Shared) (H : Hp) (Cc : Addr) (cl : List (Str × Addr)) (fp : List Addr), PI (C.blk s H scope (compEnvC scope cl Cc C.env) fp) (toE tg1) (toE it1) (TrI C.K W0 (sem gl F it1).i))
    (hg1 : ∀ (s : Shared) (H : Hp) (Cc : Addr) (cl : List (Str × Addr)) (fp : List Addr), PG (C.blk s H scope (compEnvC scope cl Cc C.env) fp) (toE tg1) (gE C.K tg1))
    (ht1 : ∀ (s : Shared) (H : Hp) (Cc : Addr) (cl : List (Str × Addr)) (fp : List Addr), L2.PTs (C.blk s H scope (compEnvC scope cl Cc C.env) fp) ifs1 (TrT C.K W0 (cnd (sem gl F cond1))))
    (he : ∀ (s : Shared) (H : Hp) (Cc : Addr) (cl : List (Str × Addr)) (fp : List Addr), PE (C.blk s H scope (compEnvC scope cl Cc C.env) fp) (toE elt) (TrE C.K W0 (sem gl F elt).e)) (hs : ∀ x, foldedSetIterable iter C.env x = pure x) (hs1 : ∀ env x, foldedSetIterable (toE it1) env x = pure x) :
    PS C (.Assign [.Name y py] (.ListComp (toE elt) [⟨toE tg, iter, ifs, 0⟩, ⟨toE tg1, toE it1, ifs1, 0⟩] scope pos) spos) (TrS C.K W fun e s => ((fi e s).bd fun w s => (cp2All (sem gl F tg) (sem gl F cond) (sem gl F it1) (sem gl F tg1) (sem gl F cond1) (sem gl F elt) own1 (wipeE e (own.map (·.2))) w s).bd fun xs s => mkLs2 m xs s).bx fun v s => kV i v e s) :=
  imS (L2.ps_setLc2 hc hN hy hyl hsw hi ok hv hg ht hi1 hg1 ht1 he hs hs1) fun D σ H ⟨O, ρ, e, st, R, h⟩ => cp2_imp (m := m) hn hn1 hv ⟨O, ρ, e, st, R, End.bx R.S h fun x st1 ρ1 H1 v _ s1 S1 r1 h1 => h1 ρ1 _ H1 .rfl ⟨S1, (R.go s1 S1).E.set r1 i⟩⟩
end
end Mi
end
section
set_option Elab.async false
set_option linter.all false
set_option maxRecDepth 100000
set_option maxHeartbeats 2000000
/-! D6: dict comprehensions of two clauses, on the machine. -/
namespace Mi
open PySem
open L2 (V HO Hp upd upd_same upd_ne SqL SqT Rd Cx Inv PE PT PA PS PSs PG PGs PTs PI TE TT TA TS TG TGs TI It VK XK Ends RelV Vals ne_of_none Gl Vis Loc wipe Key valV putK thn Turn FpOk)
namespace Dc2
/-- one lap of a clause: what comes is stored and tested, then the work is done -/
def turnOf (p : Pos) (t : Expr) (cs : List Expr) (env : Env) (it : Value) (todo : Sem Fin) (c : Code) : Sem Fin := do
  standAt p; match ← pyNext it with
  | none => pure (.done .next)
  | some v => letOwnedTupleGo t it v; assign t env v; let mut yes := true; for a in cs do if yes then yes ← isTrue a env (eval a env)
              if yes then todo else again c
def todo0 (e i1 : Expr) (acc : Value) (env : Env) (c : Code) : Sem Fin := do
  let y ← eval i1 env; standAt i1.pos; let y ← foldedSetIterable i1 env y; let z ← holding [y] (pyIter y); let _ ← runOwn (.compStart e 1 z acc env) env; again c
def todo1 (kx vx : Expr) (D : Addr) (env : Env) (c : Code) : Sem Fin := do
  (do let y ← eval kx env; let z ← holding [y] (eval vx env); standAt { kx.pos with endLine := vx.pos.endLine, endCol := vx.pos.endCol }; holding [y, z] (dictSet D y z)); again c
theorem turn0 {kx vx t0 i0 t1 i1 : Expr} {c0 c1 : List Expr} {sc : Scope} {p : Pos} {it : Value} {D : Addr} {env : Env} : compTurn (.DictComp kx vx [⟨t0, i0, c0, 0⟩, ⟨t1, i1, c1, 0⟩] sc p) 0 it (.ref D) env =
    turnOf i0.pos t0 c0 env it (todo0 (.DictComp kx vx [⟨t0, i0, c0, 0⟩, ⟨t1, i1, c1, 0⟩] sc p) i1 (.ref D) env (.compLoop (.DictComp kx vx [⟨t0, i0, c0, 0⟩, ⟨t1, i1, c1, 0⟩] sc p) 0 it (.ref D) env)) (.compLoop (.DictComp kx vx [⟨t0, i0, c0, 0⟩, ⟨t1, i1, c1, 0⟩] sc p) 0 it (.ref D) env) := by rfl
theorem turn1 {kx vx t0 i0 t1 i1 : Expr} {c0 c1 : List Expr} {sc : Scope} {p : Pos} {it : Value} {D : Addr} {env : Env} : compTurn (.DictComp kx vx [⟨t0, i0, c0, 0⟩, ⟨t1, i1, c1, 0⟩] sc p) 1 it (.ref D) env =
    turnOf i1.pos t1 c1 env it (todo1 kx vx D env (.compLoop (.DictComp kx vx [⟨t0, i0, c0, 0⟩, ⟨t1, i1, c1, 0⟩] sc p) 1 it (.ref D) env)) (.compLoop (.DictComp kx vx [⟨t0, i0, c0, 0⟩, ⟨t1, i1, c1, 0⟩] sc p) 1 it (.ref D) env) := by rfl
/-- slots that know what others know -/
def Kn (σ τ : Sg) : Prop := σ.length = τ.length ∧ ∀ (j : Nat) (v : V), σ[j]? = some (some v) → τ[j]? = some (some v)
theorem Kn.of {σ τ : Sg} {vs : List Nat} (h : wipe τ vs = σ) : Kn σ τ := by
  subst h
  exact ⟨L2.wipe_length _ _, fun j v q => (L2.wipe_some q).1⟩
theorem Kn.sub {σ τ : Sg} {vs ws : List Nat} (h : wipe τ vs = σ) (hw : ∀ i ∈ ws, i ∈ vs) : Kn σ (wipe τ ws) := by
  subst h
  refine ⟨by rw [L2.wipe_length, L2.wipe_length], fun j v q => ?_⟩
  have q' := L2.wipe_some q
  rw [L2.wipe_out fun z => q'.2 (hw j z)]
  exact q'.1
/-- a clause's loop -/
theorem clause {Y : Cx} {t : Expr} {cs : List Expr} {g : TG} {tt : TT} {J : It} {fp : List Addr} {it : Addr} {tn : Nat → Heap → Prop} {pins : List (Addr × Obj)} {σ : Sg} {ok : Sg → Prop} {Work : Sg → Hp → (Hp → Prop) → Prop} {Fin : Hp → Prop} {W : Nat → Nat → Hp → Prop} {R : Result → Shared → Prop} {kx vx : Expr} {gs : List Comprehension} {sc : Scope} {q : Pos} {d : Nat} {acc : Value} {p : Pos} {todo : Sem PySem.Fin}
    (hc : Y.calm = true) (bare : ∀ u s, ¬ Y.xe u s) (T : Turn Y.prog Y.w Y.K t J fp it tn) (pg : PG Y t g) (pt : PTs Y cs tt) (eT : compTurn (.DictComp kx vx gs sc q) d (.ref it) acc Y.env = turnOf p t cs Y.env (.ref it) todo (.compLoop (.DictComp kx vx gs sc q) d (.ref it) acc Y.env))
    (st : ∀ {H : Hp} {s : Shared}, Inv Y pins σ H s → (∀ b ∈ fp, H b = none) → ∀ b ∈ fp, FpOk Y pins H b) (kn : ∀ τ, ok τ → Kn σ τ)
    (work : ∀ {pins' : List (Addr × Obj)} {s : Shared} {τ : Sg} {H : Hp} {Nx : Hp → Prop}, (∀ q ∈ pins, q ∈ pins') → ok τ → Inv Y pins' τ H s → Work τ H Nx → wpAny (model Y.prog Y.w) Y.A todo (fun f s' => f = .again (.compLoop (.DictComp kx vx gs sc q) d (.ref it) acc Y.env) ∧ ∃ τ' H', Kn σ τ' ∧ Inv Y pins' τ' H' s' ∧ Nx H') (fun _ _ => False) s)
    (turn : ∀ i m H, W i m H → (J.stop i H ∧ Fin H) ∨ (J.go i H ∧ ∃ Nx : Hp → Prop, (∀ H', Nx H' → ∃ m', m' < m ∧ W (i + 1) m' H') ∧ ∀ x H', J.yld i H x H' → g x σ H' fun τ H2 => ok τ ∧ tt τ H2 fun b H3 => if b = true then Work τ H3 Nx else Nx H3))
    (fin : ∀ H s, Inv Y pins σ H s → Fin H → R (.ok .next) s) {m : Nat} {H : Hp} {s : Shared} (I : Inv Y pins σ H s) (k : tn 0 s.heap) (n : ∀ b ∈ fp, H b = none) (w : W 0 m H) : codeAny (model Y.prog Y.w) Y.A (.compLoop (.DictComp kx vx gs sc q) d (.ref it) acc Y.env) R s := by
  refine codeAny_loop rfl (fun m s => ∃ i H, W i m H ∧ tn i s.heap ∧ Inv Y pins σ H s ∧ ∀ b ∈ fp, H b = none) ?_ m ⟨0, H, w, k, I, n⟩
  rintro m s ⟨i, H, w, k, I, n⟩
  show wpAny _ Y.A ((compTurn (.DictComp kx vx gs sc q) d (.ref it) acc Y.env).onRaise fun x => do noteFrame x Y.env; theTreesLotGoes x) _ _ s
  apply wpAny_noted
  rw [eT]
  unfold turnOf
  apply wpAny_bind; apply wpAny_standAt; apply wpAny_bind
  rcases turn i m H w with ⟨z, f⟩ | ⟨z, Nx, less, step⟩
  · refine L2.thnF (T.done Y rfl rfl rfl hc i pins s σ H (fun _ _ => False) I (st I n) k z) ?_
    rintro _ s1 ⟨rfl, I1⟩
    exact wpAny_pure (fin H s1 I1 f)
  · refine L2.thnF (T.item Y rfl rfl rfl hc i pins s σ H (fun _ _ => False) I (st I n) k z) ?_
    rintro _ s1 ⟨u, rfl, h1⟩
    apply wpAny_bind
    refine L2.thnF h1 ?_
    rintro _ s2 ⟨x, H2, I2, r, y, k2, n2⟩
    apply wpAny_bind
    refine wpAny_mono (pg.run _ s2 σ H2 x u _ (I2.pinned (st I2 n2) (T.obj _ _ k2)) r (step x H2 y)) ?_ fun u s z => (bare u s z).elim
    rintro _ s3 ⟨τ, H3, I3, hτ, h3⟩
    apply wpAny_bind
    refine wpAny_mono (pt.run _ s3 τ H3 _ I3 h3) ?_ fun u s z => (bare u s z).elim
    rintro b s4 ⟨H4, I4, h4⟩
    have again' : ∀ {τ' : Sg} {H' : Hp} {s' : Shared}, Kn σ τ' → Inv Y (pins ++ L2.pinsAt fp s2.heap) τ' H' s' → Nx H' → ∃ m', m' < m ∧ ∃ i H, W i m' H ∧ tn i s'.heap ∧ Inv Y pins σ H s' ∧ ∀ b ∈ fp, H b = none := by
      intro τ' H' s' kn' I' nx
      obtain ⟨m', lt, w'⟩ := less H' nx
      have pinned : ∀ b ∈ fp, ∀ o, s2.heap.get? b = some o → s'.heap.get? b = some o ∧ H' b = none := fun b hb o q =>
        have z := I'.pin (b, o) (List.mem_append_right _ (List.mem_append_right _ (L2.mem_pinsAt hb q)))
        ⟨z.1, z.2.1⟩
      refine ⟨m', lt, i + 1, H', w', T.keep _ _ _ k2 fun b hb o q => (pinned b hb o q).1, I'.unpinned.weak kn'.1 kn'.2, fun b hb => ?_⟩
      obtain ⟨o, q, _⟩ := T.obj _ _ k2 b hb
      exact (pinned b hb o q).2
    cases b with
    | false => exact wpAny_pure ⟨rfl, again' (kn τ hτ) I4 (by simpa using h4)⟩
    | true =>
      have h4 : Work τ H4 Nx := by simpa using h4
      refine L2.thnF (work (fun q hq => List.mem_append_left _ hq) hτ I4 h4) ?_
      rintro _ s5 ⟨rfl, τ', H5, kn5, I5, nx⟩
      exact ⟨rfl, again' kn5 I5 nx⟩
theorem start1 {prog : Program} {w : World} {A : Around} {R : Result → Shared → Prop} {s : Shared} {kx vx t0 i0 t1 i1 : Expr} {c0 c1 : List Expr} {sc : Scope} {p : Pos} {it acc : Value} {env : Env}
    (a : codeAny (model prog w) A (.compLoop (.DictComp kx vx [⟨t0, i0, c0, 0⟩, ⟨t1, i1, c1, 0⟩] sc p) 1 it acc env) R s)
    (b : wpAny (model prog w) A (pyIter it) (fun z s' => codeAny (model prog w) A (.compLoop (.DictComp kx vx [⟨t0, i0, c0, 0⟩, ⟨t1, i1, c1, 0⟩] sc p) 1 z acc env) R s') (notedBy (model prog w) A env fun u s' => R (.error u) s') s) :
    codeAny (model prog w) A (.compStart (.DictComp kx vx [⟨t0, i0, c0, 0⟩, ⟨t1, i1, c1, 0⟩] sc p) 1 it acc env) R s := by
  apply codeAny_of_tree
  show wpAny _ A ((compStart (.DictComp kx vx [⟨t0, i0, c0, 0⟩, ⟨t1, i1, c1, 0⟩] sc p) 1 it acc env).onRaise fun u => do noteFrame u env; standAt theWindowsPlace) _ _ s
  apply wpAny_notedAt
  unfold compStart
  show wpAny _ A (ask >>= _) _ _ s
  apply wpAny_bind; apply wpAny_askSetting; apply wpAny_ite
  split
  · first | exact wpAny_pure ⟨rfl, a⟩ | exact wpAny_bind (wpAny_pure (wpAny_pure ⟨rfl, a⟩))
  · apply wpAny_bind; apply wpAny_rule
    show wpAny _ _ (standAt i1.pos >>= _) _ _ s
    apply wpAny_bind; apply wpAny_standAt; apply wpAny_bind
    exact wpAny_mono b (fun z s' q => wpAny_pure ⟨rfl, q⟩) fun _ _ x => x
/-- a key and its value, put -/
def put (tk tv : TE) (D : Addr) (σ : Sg) (H : Hp) (Nx : Hp → Prop) : Prop := tk σ H fun y H1 => tv σ H1 fun z H2 => ∃ kvs k, y = L2.kV k ∧ H2 D = some (.dK kvs) ∧ kvs.length < sizeLine ∧ Nx (upd H2 D (.dK (putK kvs k z)))
/-- a loop's own steps -/
def steps (J : It) (g : TG) (tt : TT) (σ : Sg) (ok : Sg → Prop) (Work : Sg → Hp → (Hp → Prop) → Prop) (Fin : Hp → Prop) (W : Nat → Nat → Hp → Prop) : Prop := ∀ i m H, W i m H → (J.stop i H ∧ Fin H) ∨ (J.go i H ∧ ∃ Nx : Hp → Prop, (∀ H', Nx H' → ∃ m', m' < m ∧ W (i + 1) m' H') ∧ ∀ x H', J.yld i H x H' → g x σ H' fun τ H2 => ok τ ∧ tt τ H2 fun b H3 => if b = true then Work τ H3 Nx else Nx H3)
/-- the second clause, from there -/
def inner (w1 : TI) (g1 : TG) (b1 : TT) (tk tv : TE) (vs1 : List Nat) (D : Addr) (σ : Sg) (H : Hp) (Nx : Hp → Prop) : Prop := w1 σ H fun J H1 => ∃ W : Nat → Nat → Hp → Prop, (∃ m, W 0 m H1) ∧ steps J g1 b1 (wipe σ vs1) (fun τ => wipe τ vs1 = wipe σ vs1) (put tk tv D) Nx W
/-- {k: v for t0 in i0 if .. for t1 in i1 if ..}: D the new dict; vs the block's names, vs1 those of the second target -/
def tDc2 (w0 : TI) (g0 : TG) (b0 : TT) (w1 : TI) (g1 : TG) (b1 : TT) (tk tv : TE) (vs vs1 : List Nat) : TE := fun σ H Q => w0 σ H fun J H1 => ∀ D, H1 D = none → ∃ W : Nat → Nat → Hp → Prop, (∃ m, W 0 m (upd H1 D (.dK []))) ∧ steps J g0 b0 (wipe σ vs) (fun τ => wipe τ vs = wipe σ vs) (inner w1 g1 b1 tk tv vs1 D) (fun H => Q (.ref D) H) W
theorem work1 {Y : Cx} {c : Code} {kx vx : Expr} {tk tv : TE} {D : Addr} (bare : ∀ u s, ¬ Y.xe u s) (pk : PE Y kx tk) (pv : PE Y vx tv) {σ τ : Sg} {pins : List (Addr × Obj)} {s : Shared} {H : Hp} {Nx : Hp → Prop} (kn : Kn σ τ) (I : Inv Y pins τ H s) (h : put tk tv D τ H Nx) :
    wpAny (model Y.prog Y.w) Y.A (todo1 kx vx D Y.env c) (fun f s' => f = .again c ∧ ∃ τ' H', Kn σ τ' ∧ Inv Y pins τ' H' s' ∧ Nx H') (fun _ _ => False) s := by
  unfold todo1
  apply wpAny_bind; apply wpAny_bind
  refine wpAny_mono (pk.run pins s τ H _ I h) ?_ fun u s z => (bare u s z).elim
  rintro y s1 ⟨a, H1, I1, r1, h1⟩
  apply wpAny_bind; apply wpAny_holding
  refine wpAny_mono (pv.run pins s1 τ H1 _ I1 h1) ?_ fun u s z => (bare u s z).elim
  rintro z s2 ⟨b, H2, I2, r2, kvs, k, rfl, hD, lt, nx⟩
  apply wpAny_bind; apply wpAny_standAt; apply wpAny_holding
  exact L2.d_dictSet I2 hD lt r1 r2 fun s3 I3 => wpAny_pure ⟨rfl, τ, _, kn, I3, nx⟩
theorem work0 {Y : Cx} {c : Code} {kx vx t0 i0 t1 i1 : Expr} {c0 c1 : List Expr} {sc : Scope} {p : Pos} {w1 : TI} {g1 : TG} {b1 : TT} {tk tv : TE} {vs vs1 : List Nat} {D : Addr} (hc : Y.calm = true) (bare : ∀ u s, ¬ Y.xe u s) (hs1 : ∀ env x, foldedSetIterable i1 env x = pure x) (hv : ∀ i ∈ vs1, i ∈ vs)
    (p1 : PI Y t1 i1 w1) (pg : PG Y t1 g1) (pt : PTs Y c1 b1) (pk : PE Y kx tk) (pv : PE Y vx tv) {σ τ : Sg} {pins : List (Addr × Obj)} {s : Shared} {H : Hp} {Nx : Hp → Prop} (ok : wipe τ vs = σ) (I : Inv Y pins τ H s) (h : inner w1 g1 b1 tk tv vs1 D τ H Nx) :
    wpAny (model Y.prog Y.w) Y.A (todo0 (.DictComp kx vx [⟨t0, i0, c0, 0⟩, ⟨t1, i1, c1, 0⟩] sc p) i1 (.ref D) Y.env c) (fun f s' => f = .again c ∧ ∃ τ' H', Kn σ τ' ∧ Inv Y pins τ' H' s' ∧ Nx H') (fun _ _ => False) s := by
  unfold todo0
  apply wpAny_bind
  refine wpAny_mono (p1.run pins s τ H _ I h) ?_ fun u s z => (bare u s z).elim
  intro y s1 h1
  apply wpAny_bind; apply wpAny_standAt; apply wpAny_bind
  refine wpAny_of_eq (hs1 _ y) ?_
  apply wpAny_bind; apply wpAny_holding
  refine wpAny_mono h1 ?_ fun u s z => (bare u s z).elim
  rintro _ s2 ⟨it, fp, tn, J, H2, rfl, I2, T, k2, f2, W, ⟨m, w⟩, turns⟩
  apply wpAny_bind; refine wpAny_runOwn ?_
  rw [Around.mark_none]
  have loop : codeAny (model Y.prog Y.w) Y.A (.compLoop (.DictComp kx vx [⟨t0, i0, c0, 0⟩, ⟨t1, i1, c1, 0⟩] sc p) 1 (.ref it) (.ref D) Y.env) (fun r s' => match r with | .ok _ => ∃ τ' H', Kn σ τ' ∧ Inv Y pins τ' H' s' ∧ Nx H' | .error _ => False) s2 :=
    clause hc bare T pg pt turn1 (fun _ n b hb => ⟨n b hb, (f2 b hb).2⟩) (fun _ q => Kn.of q) (fun _ hok I' h' => work1 bare pk pv (Kn.of hok) I' h') turns (fun H s I' nx => ⟨_, H, Kn.sub ok hv, I', nx⟩)
      (I2.weak (L2.wipe_length _ _) fun j v q => (L2.wipe_some q).1) k2 (fun b hb => (f2 b hb).1) w
  refine codeAny_mono (start1 loop (T.self Y.A 0 _ _ _ k2 loop)) ?_
  intro r s3 q
  cases r with
  | ok f => exact wpAny_pure ⟨rfl, q⟩
  | error u => exact q.elim
/-- what is known of the clauses' parts in the block -/
def Parts (X : Cx) (sc : Scope) (t0 : Expr) (c0 : List Expr) (t1 i1 : Expr) (c1 : List Expr) (kx vx : Expr) (g0 : TG) (b0 : TT) (w1 : TI) (g1 : TG) (b1 : TT) (tk tv : TE) : Prop := ∀ (s : Shared) (H : Hp) (Cc : Addr) (cl : List (Str × Addr)) (fp : List Addr),
  (PG (X.blk s H sc (compEnvC sc cl Cc X.env) fp) t0 g0 ∧ PTs (X.blk s H sc (compEnvC sc cl Cc X.env) fp) c0 b0) ∧ PI (X.blk s H sc (compEnvC sc cl Cc X.env) fp) t1 i1 w1 ∧ (PG (X.blk s H sc (compEnvC sc cl Cc X.env) fp) t1 g1 ∧ PTs (X.blk s H sc (compEnvC sc cl Cc X.env) fp) c1 b1) ∧ PE (X.blk s H sc (compEnvC sc cl Cc X.env) fp) kx tk ∧ PE (X.blk s H sc (compEnvC sc cl Cc X.env) fp) vx tv
theorem dc2_core {X : Cx} {pins : List (Addr × Obj)} {s : Shared} {σ : Sg} {H : Hp} {Q : VK} {kx vx t0 i0 t1 i1 : Expr} {c0 c1 : List Expr} {sc : Scope} {own : List (Str × Nat)} {vs1 : List Nat} {p p' : Pos} {w0 w1 : TI} {g0 g1 : TG} {b0 b1 : TT} {tk tv : TE} {use : Option (Value → Sem Unit)} {Qf : Value → Shared → Prop}
    (hc : X.calm = true) (hN : X.N.Nodup) (I : Inv X pins σ H s) (h0 : PI X t0 i0 w0) (ok : L2.BlkOk X.N X.env.scope sc own) (hv : ∀ i ∈ vs1, i ∈ own.map (·.2)) (P : Parts X sc t0 c0 t1 i1 c1 kx vx g0 b0 w1 g1 b1 tk tv)
    (hs : ∀ x, foldedSetIterable i0 X.env x = pure x) (hs1 : ∀ env x, foldedSetIterable i1 env x = pure x) (h : tDc2 w0 g0 b0 w1 g1 b1 tk tv (own.map (·.2)) vs1 σ H Q)
    (out : ∀ D Cc s' m H', Inv X pins σ H' s' → Q (.ref D) H' → s'.heap.Ns Cc m → FpOk X pins H' Cc → compPost (model X.prog X.w) X.A X.xe use Qf (.ref D) Cc (.ok .next) s') :
    wpAny (model X.prog X.w) X.A (comprehension (.DictComp kx vx [⟨t0, i0, c0, 0⟩, ⟨t1, i1, c1, 0⟩] sc p) sc X.env p' newDict false (eval i0 X.env) use) Qf X.xe s := by
  have fr : ∀ y ∈ sc.names, y.2 = .free → ∃ c, X.env.cells.lookup y.1 = some c := fun y hy e => (ok.free y hy e).elim (fun k => I.ok.has _ (.inl k)) fun k => I.ok.has _ (.inr k)
  refine wpAny_comprehension_free rfl hs (L2.closure_ok fr) ok.kind (fun y hy e => (ok.uniq y hy).trans (congrArg some e)) ?_
  refine thn (h0.run pins s σ H _ I h) fun _ _ z => thn z ?_
  rintro _ s2 ⟨it, fp, tn, J, H2, rfl, I2, T, k2, f2, q⟩
  refine wpAny_newObj_type (L2.newEnv_comp ?_)
  obtain ⟨D, hD⟩ : ∃ D, s2.heap.objs.size = D := ⟨_, rfl⟩
  rw [hD]
  have none2 : H2 D = none := I2.hok.fresh (Nat.le_of_eq hD)
  obtain ⟨W, ⟨m, w⟩, turns⟩ := q D none2
  -- the new dict is laid
  obtain ⟨s3, hs3⟩ : ∃ s3 : Shared, s3 = { s2 with heap := s2.heap.push { cls := .type "dict", data := .dict #[] } } := ⟨_, rfl⟩
  have hp3 : s3.heap = s2.heap.push { cls := .type "dict", data := .dict #[] } := congrArg Shared.heap hs3
  have kept3 : ∀ (b : Addr) (o : Obj), s2.heap.get? b = some o → s3.heap.get? b = some o := fun b o e => hp3 ▸ Heap.get?_push_of_some _ e
  have I3 : Inv X pins σ (upd H2 D (.dK [])) s3 := by
    subst hs3
    exact I2.laid (t' := s2.toks) (fun b o e => Heap.get?_push_of_some _ e) (Nat.le_of_eq hD) (hD ▸ L2.dk_empty s2.heap I2.big)
  have f3 : ∀ b ∈ fp, FpOk X pins (upd H2 D (.dK [])) b ∧ b < s3.heap.objs.size := by
    intro b hb
    obtain ⟨o, e, _⟩ := T.obj _ _ k2 b hb
    have lt := Heap.lt_size e
    refine ⟨⟨?_, (f2 b hb).2⟩, ?_⟩
    · rw [upd_ne fun z => Nat.lt_irrefl _ ((z.trans hD.symm) ▸ lt)]
      exact (f2 b hb).1
    · rw [hp3, Heap.size_push]
      exact Nat.lt_succ_of_lt lt
  have k3 : tn 0 s3.heap := T.keep _ _ _ k2 fun b _ o e => kept3 b o e
  have I4 := L2.block_start I3 ok hN f3
  obtain ⟨⟨pg0, pt0⟩, p1, ⟨pg1, pt1⟩, pk, pv⟩ := P s3 (upd H2 D (.dK [])) s3.heap.objs.size (PySem.cellsFrom (s3.heap.objs.size + 1) sc.names (L2.cloFrom X.env.cells sc.names [])) fp
  rw [← hs3]
  show codeAny _ _ (.compStart (.DictComp kx vx [⟨t0, i0, c0, 0⟩, ⟨t1, i1, c1, 0⟩] sc p) 0 (.ref it) (.ref D) (compEnvC sc (PySem.cellsFrom (s3.heap.objs.size + 1) sc.names (L2.cloFrom X.env.cells sc.names [])) s3.heap.objs.size X.env)) (compPost (model X.prog X.w) X.A X.xe use Qf (.ref D) s3.heap.objs.size) { s3 with heap := PySem.pushCells (s3.heap.push { cls := .type "dict", data := .dict #[] }) sc.names }
  obtain ⟨s4, hs4⟩ : ∃ s4 : Shared, s4 = { s3 with heap := PySem.pushCells (s3.heap.push { cls := .type "dict", data := .dict #[] }) sc.names } := ⟨_, rfl⟩
  have k4 : tn 0 s4.heap := T.keep _ _ _ k3 fun b _ o e => by
    subst hs4
    exact PySem.pushCells_keeps _ _ _ _ (Heap.get?_push_of_some _ e)
  rw [← hs4] at I4 ⊢
  obtain ⟨H3, hH3⟩ : ∃ H3 : Hp, H3 = upd H2 D (.dK []) := ⟨_, rfl⟩
  rw [← hH3] at I3 f3 I4 pg0 pt0 p1 pg1 pt1 pk pv w
  obtain ⟨ce, hce⟩ : ∃ ce : Env, ce = compEnvC sc (PySem.cellsFrom (s3.heap.objs.size + 1) sc.names (L2.cloFrom X.env.cells sc.names [])) s3.heap.objs.size X.env := ⟨_, rfl⟩
  have at3 : ce.locals = s3.heap.objs.size := by subst hce; rfl
  rw [← hce] at I4 pg0 pt0 p1 pg1 pt1 pk pv ⊢
  have loop : codeAny (model X.prog X.w) X.A (.compLoop (.DictComp kx vx [⟨t0, i0, c0, 0⟩, ⟨t1, i1, c1, 0⟩] sc p) 0 (.ref it) (.ref D) ce) (compPost (model X.prog X.w) X.A X.xe use Qf (.ref D) s3.heap.objs.size) s4 := by
    refine clause (Y := X.blk s3 H3 sc ce fp) (pins := []) hc (fun _ _ z => z) T pg0 pt0 turn0 ?_ (fun _ z => Kn.of z) (fun _ hok I' h' => work0 (Y := X.blk s3 H3 sc ce fp) hc (fun _ _ z => z) hs1 hv p1 pg1 pt1 pk pv hok I' h') turns ?_ I4 k4 (fun b hb => (f3 b hb).1.1) w
    · intro H' s' I' n b hb
      have x := I'.ok.exf b hb
      exact ⟨n b hb, x.1, I'.ok.exfs b hb, .inl hb, fun y c e => x.2 y c e, fun q hq => by cases hq⟩
    · intro H' s' I' qq
      have back : Inv X pins σ H' s' := I3.call' (ch := fp) I'.os I'.base I'.hok I'.bare fun b hb => ⟨(f3 b hb).1.2.2.2.1, (f3 b hb).1.2.1, (f3 b hb).1.2.2.2.2.1, (f3 b hb).1.2.2.2.2.2⟩
      obtain ⟨m', hn, _⟩ := I'.loc
      have free' : H' ce.locals = none := I'.free
      rw [at3] at free'
      exact out D _ s' m' H' back qq (at3 ▸ hn) (I3.fpOk (Nat.le_refl _) free')
  exact codeAny_compStart_dict loop (T.self X.A 0 _ _ _ k4 loop)
theorem pe_dc2 {X : Cx} {kx vx t0 i0 t1 i1 : Expr} {c0 c1 : List Expr} {sc : Scope} {own : List (Str × Nat)} {vs1 : List Nat} {p : Pos} {w0 w1 : TI} {g0 g1 : TG} {b0 b1 : TT} {tk tv : TE}
    (hc : X.calm = true) (hN : X.N.Nodup) (h0 : PI X t0 i0 w0) (ok : L2.BlkOk X.N X.env.scope sc own) (hv : ∀ i ∈ vs1, i ∈ own.map (·.2)) (P : Parts X sc t0 c0 t1 i1 c1 kx vx g0 b0 w1 g1 b1 tk tv)
    (hs : ∀ x, foldedSetIterable i0 X.env x = pure x) (hs1 : ∀ env x, foldedSetIterable i1 env x = pure x) : PE X (.DictComp kx vx [⟨t0, i0, c0, 0⟩, ⟨t1, i1, c1, 0⟩] sc p) (tDc2 w0 g0 b0 w1 g1 b1 tk tv (own.map (·.2)) vs1) := by
  constructor
  intro pins s σ H Q I h
  rw [arm_eval_DictComp]
  refine dc2_core hc hN I h0 ok hv P hs hs1 h ?_
  intro D Cc s' m H' I' q hn f
  refine ⟨m, hn, fun h'' sb => ⟨V.ref D, H', ?_, rfl, q⟩⟩
  exact I'.turned (t' := s'.toks) (fun b o hb e => (sb.2 b hb).trans e) f.1 f.2.1 f.2.2.2.1 f.2.2.2.2.1 f.2.2.2.2.2
theorem ps_dc2 {X : Cx} {i : Nat} {y : Str} {py : Pos} {kx vx t0 i0 t1 i1 : Expr} {c0 c1 : List Expr} {sc : Scope} {own : List (Str × Nat)} {vs1 : List Nat} {p spos : Pos} {w0 w1 : TI} {g0 g1 : TG} {b0 b1 : TT} {tk tv : TE}
    (hc : X.calm = true) (hN : X.N.Nodup) (hy : X.N[i]? = some y) (hyl : X.env.scope.names.lookup y = some .local) (hsw : swapsWith (.DictComp kx vx [⟨t0, i0, c0, 0⟩, ⟨t1, i1, c1, 0⟩] sc p) (some (.Name y py)) spos.line X.env = pure true)
    (h0 : PI X t0 i0 w0) (ok : L2.BlkOk X.N X.env.scope sc own) (hv : ∀ i ∈ vs1, i ∈ own.map (·.2)) (P : Parts X sc t0 c0 t1 i1 c1 kx vx g0 b0 w1 g1 b1 tk tv)
    (hs : ∀ x, foldedSetIterable i0 X.env x = pure x) (hs1 : ∀ env x, foldedSetIterable i1 env x = pure x) : PS X (.Assign [.Name y py] (.DictComp kx vx [⟨t0, i0, c0, 0⟩, ⟨t1, i1, c1, 0⟩] sc p) spos) (L2.tAsg (tDc2 w0 g0 b0 w1 g1 b1 tk tv (own.map (·.2)) vs1) (L2.gName i)) := by
  constructor
  intro pins s σ H D I q
  rw [exec_Assign_Name_used _ _ _ _ hsw]
  apply wpAny_bind; apply wpAny_standAt; apply wpAny_bind
  show wpAny _ X.A (do let _ ← comprehension (.DictComp kx vx [⟨t0, i0, c0, 0⟩, ⟨t1, i1, c1, 0⟩] sc p) sc X.env (firstIterPos [⟨t0, i0, c0, 0⟩, ⟨t1, i1, c1, 0⟩] p) newDict false (eval i0 X.env) (some (assign (.Name y py) X.env))) _ _ s
  have q' : tDc2 w0 g0 b0 w1 g1 b1 tk tv (own.map (·.2)) vs1 σ H (fun x H1 => L2.gName i x σ H1 D.nx) := q
  apply wpAny_bind
  refine thn (dc2_core (Qf := fun _ s' => L2.SP X pins D .next s') hc hN I h0 ok hv P hs hs1 q' ?_) fun _ s' z => wpAny_pure (wpAny_pure z)
  intro L Cc s' m H' I' qq hn f
  show wpAny _ _ (assign (.Name y py) X.env (.ref L)) _ _ _
  apply wpAny_assign_Name
  refine L2.store_ok2 (v := V.ref L) I' hN hy (.inl hyl) rfl ?_ (.inr hyl)
  rintro s2 I2 ⟨a, sb, ha⟩
  have ne : Cc ≠ a := by
    rcases ha with z | z
    · rw [z]; exact f.2.1
    · exact fun e => f.2.2.2.2.1 y a z e.symm
  refine ⟨m, hn.sameBut sb ne, fun h3 sb3 => ⟨_, H', ?_, qq⟩⟩
  exact I2.turned (t' := s2.toks) (fun b o hb e => (sb3.2 b hb).trans e) f.1 f.2.1 f.2.2.2.1 f.2.2.2.2.1 f.2.2.2.2.2
end Dc2
end Mi
end
section
set_option Elab.async false
set_option linter.all false
set_option maxRecDepth 100000
set_option maxHeartbeats 2000000
/-! D7: dicts: two clauses, list(d), d.values(). -/
namespace Mi
open PySem
open L2 (V HO Hp upd upd_same upd_ne SqL SqT Rd Cx Inv PE PT PA PS PSs PG PGs PTs PI TE TT TA TS TG TGs TI It VK XK Ends RelV Vals ne_of_none OpR R2 EP CallR UnR IxR SlR TruR Gl Vis Loc Itl Itt Itr wipe Key valV putK DGet DPut mixKind)
section
variable {C : Cx} {W : Str → Option Addr → Hp → Prop} {fi : En → Sr → R (List Vl ⊕ Nat)} {gl : List P} {F : Nat → List Vl → Sr → R Vl} {tg cond kx vx tg1 it1 cond1 : T}
theorem dcT_ok {tg : Vl → En → Sr → X} {cond : En → Sr → R Bool} {kx vx : En → Sr → R Vl} {e : En} {v : Vl} {acc : List (P × P)} {s : Sr} {rest : List (P × P) → Sr → R (List (P × P))} (h : ∀ acc s, (∃ xs s', rest acc s = .ok xs s') ∨ rest acc s = .no) : (∃ xs s', dcT tg cond kx vx e v acc s rest = .ok xs s') ∨ dcT tg cond kx vx e v acc s rest = .no := by
  unfold dcT
  repeat' split
  all_goals first | exact h _ _ | exact .inr rfl
theorem dcK_ok {tg : Vl → En → Sr → X} {cond : En → Sr → R Bool} {kx vx : En → Sr → R Vl} {e : En} {rest : List (P × P) → Sr → R (List (P × P))} (h : ∀ acc s, (∃ xs s', rest acc s = .ok xs s') ∨ rest acc s = .no) : ∀ (vs : List Vl) (acc : List (P × P)) (s : Sr), (∃ xs s', dcK tg cond kx vx e vs rest acc s = .ok xs s') ∨ dcK tg cond kx vx e vs rest acc s = .no
  | [], acc, s => h acc s
  | v :: r, acc, s => dcT_ok (dcK_ok h r)
theorem dc2L_ok {tg : Vl → En → Sr → X} {cond : En → Sr → R Bool} {it1 : En → Sr → R (List Vl ⊕ Nat)} {tg1 : Vl → En → Sr → X} {cond1 : En → Sr → R Bool} {kx vx : En → Sr → R Vl} {own1 : List Nat} {e : En} : ∀ (vs : List Vl) (acc : List (P × P)) (s : Sr), (∃ xs s', dc2L tg cond it1 tg1 cond1 kx vx own1 e vs acc s = .ok xs s') ∨ dc2L tg cond it1 tg1 cond1 kx vx own1 e vs acc s = .no
  | [], acc, s => .inl ⟨acc, s, rfl⟩
  | v :: r, acc, s => cp2T_ok (dc2L_ok r acc) fun e vs s => dcK_ok (dc2L_ok r) vs acc s
/-- where a dict comprehension stands -/
def StD (K : Fg) (W : Str → Option Addr → Hp → Prop) (O : Addr → Prop) (ρ1 : Nat → Addr) (st1 : Sr) (H1 : Hp) (D : Addr) (Q : VK) (Xt : (Nat → Addr) → Sr → Hp → Prop) (σ : Sg) (e : En) (rest : List (P × P) → Sr → R (List (P × P))) (H : Hp) : Prop :=
  ∃ ρ st acc accP kvs s'', Xt ρ st H ∧ Stp ρ1 st1 H1 ρ st H ∧ RelS K (fun a => O a ∨ a = D) ρ H st ∧ RelE K (fun a => O a ∨ a = D) ρ σ H e st ∧ H D = some (.dK acc) ∧ KReq K (Mt (fun a => O a ∨ a = D) ρ st) H accP acc ∧ rest accP st = .ok kvs s'' ∧ End K W O (RpV K O) ρ1 st1 H1 (.ok (.r s''.length) (s'' ++ [.dp 0 kvs])) Q
theorem dc2_imp {own : List (Str × Nat)} {own1 : List Nat} {σ : Sg} {H : Hp} {Q : VK} (hn : nmT (own.map (·.2)) tg = true) (hn1 : nmT own1 tg1 = true) (hv : ∀ i ∈ own1, i ∈ own.map (·.2))
    (h0 : TrE C.K W (fun e s => (fi e s).bd fun w s => (dc2All (sem gl F tg) (sem gl F cond) (sem gl F it1) (sem gl F tg1) (sem gl F cond1) (sem gl F kx) (sem gl F vx) own1 (wipeE e (own.map (·.2))) w s).bd fun kvs s => .ok (.r s.length) (s ++ [.dp 0 kvs])) σ H Q) :
    Dc2.tDc2 (TrI C.K W fi) (gE C.K tg) (TrT C.K W0 (cnd (sem gl F cond))) (TrI C.K W0 (sem gl F it1).i) (gE C.K tg1) (TrT C.K W0 (cnd (sem gl F cond1))) (TrE C.K W0 (sem gl F kx).e) (TrE C.K W0 (sem gl F vx).e) (own.map (·.2)) own1 σ H Q :=
  let ⟨O, ρ, e, st, R, h⟩ := h0; ⟨O, ρ, e, st, R, End.bd R.S h fun w st1 ρ1 H1 J _ s1 S1 r1 h1 D hD => by
    have R1 := R.go s1 S1
    have wid : Wid O (fun a => O a ∨ a = D) H1 := fun a q => q.elim .inl fun q => .inr (q ▸ hD)
    have Sf : RelS C.K (fun _ => False) ρ1 H1 st1 := S1.less fun _ q => q.elim
    have S0 := S1.newOwn (ho := .dK []) hD
    have E0 := (RelE.newOwn (ho := .dK []) S1 R1.E hD).wipe (own.map (·.2))
    have s0 : Stp ρ1 st1 H1 ρ1 st1 (upd H1 D (.dK [])) := Stp.new S1 hD
    have nO : ¬ O D := fun q => S1.al D q hD
    generalize how : own.map (·.2) = ow at *
    cases w with
    | inr n => exact h1.elim
    | inl vs =>
      have okI : ItOk C.K O ρ1 st1 H1 vs J := r1
      have h2 : End C.K W O (RpV C.K O) ρ1 st1 H1 ((dc2L (sem gl F tg).k (cnd (sem gl F cond)) (sem gl F it1).i (sem gl F tg1).k (cnd (sem gl F cond1)) (sem gl F kx).e (sem gl F vx).e own1 (wipeE e ow) vs [] st1).bd fun kvs s => .ok (.r s.length) (s ++ [.dp 0 kvs])) Q := h1
      have nl : ∀ {ρ : Nat → Addr} {st : Sr} {H : Hp}, RelS C.K (fun a => O a ∨ a = D) ρ H st → ¬ live ρ st D := fun S ⟨n, o, q1, q2, q3⟩ => S.out n (List.getElem?_eq_some_iff.mp q1).1 (.inr q3)
      refine ⟨fun i k H => k = vs.length - i ∧ StD C.K W O ρ1 st1 H1 D Q (fun _ _ _ => True) (wipe σ ow) (wipeE e ow) (dc2L (sem gl F tg).k (cnd (sem gl F cond)) (sem gl F it1).i (sem gl F tg1).k (cnd (sem gl F cond1)) (sem gl F kx).e (sem gl F vx).e own1 (wipeE e ow) (vs.drop i)) H, ⟨vs.length, by simp, ?_⟩, ?_⟩
      · rcases dc2L_ok (tg := (sem gl F tg).k) (cond := cnd (sem gl F cond)) (it1 := (sem gl F it1).i) (tg1 := (sem gl F tg1).k) (cond1 := cnd (sem gl F cond1)) (kx := (sem gl F kx).e) (vx := (sem gl F vx).e) (own1 := own1) (e := wipeE e ow) vs [] st1 with ⟨xs, s', q⟩ | q
        · rw [q] at h2
          exact ⟨ρ1, st1, [], [], xs, s', trivial, s0, S0, E0, upd_same, .nil, q, h2⟩
        · rw [q] at h2; exact h2.elim
      · rintro i k H ⟨rfl, ρ2, st2, acc, accP, kvs, s'', _, t2, S2, E2, hD2, ra, hc2, hq⟩
        have oki := okI (fun _ => False) (fun a => O a ∨ a = D) ρ2 st2 H XO.no wid (t2.x S1 S2) S2 i
        by_cases hlt : i < vs.length
        · obtain ⟨g1, g2⟩ := oki.1 vs[i] (by simp [hlt])
          rw [show vs.drop i = vs[i] :: vs.drop (i + 1) from List.drop_eq_getElem_cons hlt] at hc2
          refine .inr ⟨g1, StD C.K W O ρ1 st1 H1 D Q (fun _ _ _ => True) (wipe σ ow) (wipeE e ow) (dc2L (sem gl F tg).k (cnd (sem gl F cond)) (sem gl F it1).i (sem gl F tg1).k (cnd (sem gl F cond1)) (sem gl F kx).e (sem gl F vx).e own1 (wipeE e ow) (vs.drop (i + 1))), fun H' q => ⟨vs.length - (i + 1), by omega, rfl, q⟩, fun x H' y => ?_⟩
          obtain ⟨u1, u2, u3⟩ := g2 x H' y
          have hD3 : H' D = some (.dK acc) := u1.kp D _ hD2 (nl S2) fun ps z => nomatch z
          have E3 := E2.stp S2 u1
          have ra3 : KReq C.K (Mt (fun a => O a ∨ a = D) ρ2 st2) H' accP acc := ra.map fun h => h.stp S2 u1
          have t3 := t2.trans Sf (S2.less fun _ q => q.elim) u1
          have hc2 : cp2T (sem gl F tg).k (cnd (sem gl F cond)) (sem gl F it1).i own1 (wipeE e ow) vs[i] st2 (fun e1 ws s => dcK (sem gl F tg1).k (cnd (sem gl F cond1)) (sem gl F kx).e (sem gl F vx).e e1 ws (dc2L (sem gl F tg).k (cnd (sem gl F cond)) (sem gl F it1).i (sem gl F tg1).k (cnd (sem gl F cond1)) (sem gl F kx).e (sem gl F vx).e own1 (wipeE e ow) (vs.drop (i + 1))) accP s) (dc2L (sem gl F tg).k (cnd (sem gl F cond)) (sem gl F it1).i (sem gl F tg1).k (cnd (sem gl F cond1)) (sem gl F kx).e (sem gl F vx).e own1 (wipeE e ow) (vs.drop (i + 1)) accP) = .ok kvs s'' := hc2
          generalize hrest : dc2L (sem gl F tg).k (cnd (sem gl F cond)) (sem gl F it1).i (sem gl F tg1).k (cnd (sem gl F cond1)) (sem gl F kx).e (sem gl F vx).e own1 (wipeE e ow) (vs.drop (i + 1)) = rest at *
          unfold cp2T at hc2
          cases q : (sem gl F tg).k vs[i] (wipeE e ow) st2 with
          | nx e1 sx =>
            rw [q] at hc2
            have e0 := (gE_st gl F ow tg _ e1 st2 sx _ hn q).symm
            subst e0
            have ew := gE_we gl F ow tg _ e1 st2 st2 _ hn q
            rw [wipeE_wipeE] at ew
            dsimp only at hc2
            refine gE_ok gl F ow tg (wipe σ ow) _ e1 vs[i] x hn E3 u3 q fun σ' E' w' => ⟨show wipe σ' ow = wipe σ ow by rw [w', wipe_wipe], ?_⟩
            rw [wipe_wipe] at w'
            have R' : Rel C.K (fun a => O a ∨ a = D) ρ2 σ' H' e1 st2 := ⟨u2, E'⟩
            refine ⟨_, ρ2, e1, st2, R', ?_⟩
            cases qc : cnd (sem gl F cond) e1 st2 with
            | ok b s3 =>
              rw [qc] at hc2
              intro ρ3 H3 b' t4 S3 rb
              cases (show b = b' from rb)
              have R3 := R'.go t4 S3
              have hD4 : H3 D = some (.dK acc) := t4.kp D _ hD3 (nl u2) fun ps z => nomatch z
              have t5 := t3.trans Sf (u2.less fun _ q => q.elim) t4
              have ra4 : KReq C.K (Mt (fun a => O a ∨ a = D) ρ3 s3) H3 accP acc := ra3.map fun h => h.stp u2 t4
              cases b with
              | false => exact ⟨ρ3, s3, acc, accP, kvs, s'', trivial, t5, S3, E3.stp u2 t4, hD4, ra4, hc2, hq⟩
              | true =>
                dsimp only at hc2
                refine ⟨_, ρ3, e1, s3, R3, ?_⟩
                cases qi : (sem gl F it1).i e1 s3 with
                | ok w s4 =>
                  rw [qi] at hc2
                  intro ρ4 H4 J1 t6 S4 rI
                  cases w with
                  | inr n => cases hc2
                  | inl ws =>
                    dsimp only at hc2
                    have rI : ItOk C.K (fun a => O a ∨ a = D) ρ4 s4 H4 ws J1 := rI
                    have hD5 : H4 D = some (.dK acc) := t6.kp D _ hD4 (nl S3) fun ps z => nomatch z
                    have t7 := t5.trans Sf (S3.less fun _ q => q.elim) t6
                    have xo : XO (fun a => a = D) (fun a => O a ∨ a = D) H4 := ⟨fun a h => .inr h, fun a h => .inr ⟨acc, by rw [h]; exact hD5⟩⟩
                    refine ⟨fun j k H => k = ws.length - j ∧ StD C.K W O ρ1 st1 H1 D Q (fun ρ st H => StpX (fun a => a = D) ρ4 s4 H4 ρ st H) (wipe σ' own1) (wipeE e1 own1) (dcK (sem gl F tg1).k (cnd (sem gl F cond1)) (sem gl F kx).e (sem gl F vx).e (wipeE e1 own1) (ws.drop j) rest) H, ⟨ws.length, by simp, ρ4, s4, acc, accP, kvs, s'', .rfl, t7, S4, (R3.E.stp S3 t6).wipe own1, hD5, ra4.map fun h => h.stp S3 t6, hc2, hq⟩, ?_⟩
                    rintro j k H5 ⟨rfl, ρ5, st5, acc5, accP5, kvs5, s5, x5, t8, S5, E5, hD6, ra5, hc5, hq5⟩
                    have okj := rI (fun a => a = D) (fun a => O a ∨ a = D) ρ5 st5 H5 xo .rfl x5 S5 j
                    by_cases hlj : j < ws.length
                    · obtain ⟨g3, g4⟩ := okj.1 ws[j] (by simp [hlj])
                      rw [show ws.drop j = ws[j] :: ws.drop (j + 1) from List.drop_eq_getElem_cons hlj] at hc5
                      refine .inr ⟨g3, StD C.K W O ρ1 st1 H1 D Q (fun ρ st H => StpX (fun a => a = D) ρ4 s4 H4 ρ st H) (wipe σ' own1) (wipeE e1 own1) (dcK (sem gl F tg1).k (cnd (sem gl F cond1)) (sem gl F kx).e (sem gl F vx).e (wipeE e1 own1) (ws.drop (j + 1)) rest), fun H' q => ⟨ws.length - (j + 1), by omega, rfl, q⟩, fun x H' y => ?_⟩
                      obtain ⟨v1, v2, v3⟩ := g4 x H' y
                      have hD7 : H' D = some (.dK acc5) := v1.kp D _ hD6 (nl S5) fun ps z => nomatch z
                      exact dc_turn hn1 (t8.trans Sf (S5.less fun _ q => q.elim) v1) v2 Sf (E5.stp S5 v1) (.inr rfl) hD hD7 (ra5.map fun h => h.stp S5 v1) v3 hc5
                        fun ρ6 st6 H6 acc6 accP6 a1 ax a2 a3 a4 a6 a7 => ⟨ρ6, st6, acc6, accP6, kvs5, s5, (x5.trans (v1.x S5 v2)).trans ax, a1, a2, a3, a4, a6, a7, hq5⟩
                    · refine .inl ⟨okj.2 (by omega), ?_⟩
                      rw [List.drop_eq_nil_of_le (by omega)] at hc5
                      have E6 := E5.wipe ow
                      rw [wipe_sub hv, wipeE_sub hv, ew, w'] at E6
                      exact ⟨ρ5, st5, acc5, accP5, kvs5, s5, trivial, t8, S5, E6, hD6, ra5, hc5, hq5⟩
                | ex a b c => rw [qi] at hc2; cases hc2
                | no => rw [qi] at hc2; cases hc2
            | ex a b c => rw [qc] at hc2; cases hc2
            | no => rw [qc] at hc2; cases hc2
          | _ => rw [q] at hc2; cases hc2
        · refine .inl ⟨oki.2 (by omega), ?_⟩
          rw [List.drop_eq_nil_of_le (by omega)] at hc2
          cases hc2
          exact hq _ _ _ (t2.adopt hD) (adoptD S2 (fun _ q => .inl q) (fun _ q => q) (.inr rfl) nO hD2 ra) ⟨by simp, by rw [ext_same]⟩⟩
section
variable {iter : Expr} {sc : Scope} {own : List (Str × Nat)} {own1 : List Nat} {pos : Pos} {ifs ifs1 : List Expr}
theorem xDc2 (hc : C.calm = true) (hN : C.N.Nodup) (hi : PI C (toE tg) iter (TrI C.K W fi)) (ok : L2.BlkOk C.N C.env.scope sc own) (hn : nmT (own.map (·.2)) tg = true) (hn1 : nmT own1 tg1 = true) (hv : ∀ i ∈ own1, i ∈ own.map (·.2))
    (P : Dc2.Parts C sc (toE tg) ifs (toE tg1) (toE it1) ifs1 (toE kx) (toE vx) (gE C.K tg) (TrT C.K W0 (cnd (sem gl F cond))) (TrI C.K W0 (sem gl F it1).i) (gE C.K tg1) (TrT C.K W0 (cnd (sem gl F cond1))) (TrE C.K W0 (sem gl F kx).e) (TrE C.K W0 (sem gl F vx).e))
    (hs : ∀ x, foldedSetIterable iter C.env x = pure x) (hs1 : ∀ env x, foldedSetIterable (toE it1) env x = pure x) :
    PE C (.DictComp (toE kx) (toE vx) [⟨toE tg, iter, ifs, 0⟩, ⟨toE tg1, toE it1, ifs1, 0⟩] sc pos) (TrE C.K W fun e s => (fi e s).bd fun w s => (dc2All (sem gl F tg) (sem gl F cond) (sem gl F it1) (sem gl F tg1) (sem gl F cond1) (sem gl F kx) (sem gl F vx) own1 (wipeE e (own.map (·.2))) w s).bd fun kvs s => .ok (.r s.length) (s ++ [.dp 0 kvs])) :=
  imE (Dc2.pe_dc2 hc hN hi ok hv P hs hs1) fun σ H Q h => dc2_imp hn hn1 hv h
theorem sDc2 {spos py : Pos} {i : Nat} {y : Str} (hc : C.calm = true) (hN : C.N.Nodup) (hy : C.N[i]? = some y) (hyl : C.env.scope.names.lookup y = some .local)
    (hsw : swapsWith (.DictComp (toE kx) (toE vx) [⟨toE tg, iter, ifs, 0⟩, ⟨toE tg1, toE it1, ifs1, 0⟩] sc pos) (some (.Name y py)) spos.line C.env = pure true)
    (hi : PI C (toE tg) iter (TrI C.K W fi)) (ok : L2.BlkOk C.N C.env.scope sc own) (hn : nmT (own.map (·.2)) tg = true) (hn1 : nmT own1 tg1 = true) (hv : ∀ i ∈ own1, i ∈ own.map (·.2))
    (P : Dc2.Parts C sc (toE tg) ifs (toE tg1) (toE it1) ifs1 (toE kx) (toE vx) (gE C.K tg) (TrT C.K W0 (cnd (sem gl F cond))) (TrI C.K W0 (sem gl F it1).i) (gE C.K tg1) (TrT C.K W0 (cnd (sem gl F cond1))) (TrE C.K W0 (sem gl F kx).e) (TrE C.K W0 (sem gl F vx).e))
    (hs : ∀ x, foldedSetIterable iter C.env x = pure x) (hs1 : ∀ env x, foldedSetIterable (toE it1) env x = pure x) :
    PS C (.Assign [.Name y py] (.DictComp (toE kx) (toE vx) [⟨toE tg, iter, ifs, 0⟩, ⟨toE tg1, toE it1, ifs1, 0⟩] sc pos) spos) (TrS C.K W fun e s => ((fi e s).bd fun w s => (dc2All (sem gl F tg) (sem gl F cond) (sem gl F it1) (sem gl F tg1) (sem gl F cond1) (sem gl F kx) (sem gl F vx) own1 (wipeE e (own.map (·.2))) w s).bd fun kvs s => .ok (.r s.length) (s ++ [.dp 0 kvs])).bx fun v s => kV i v e s) :=
  imS (Dc2.ps_dc2 hc hN hy hyl hsw hi ok hv P hs hs1) fun D σ H ⟨O, ρ, e, st, R, h⟩ => dc2_imp hn hn1 hv ⟨O, ρ, e, st, R, End.bx R.S h fun x st1 ρ1 H1 v _ s1 S1 r1 h1 => h1 ρ1 _ H1 .rfl ⟨S1, (R.go s1 S1).E.set r1 i⟩⟩
end
/-! list(d), d.values() -/
section
variable {K : Fg} {m : Addr → Prop} {H : Hp}
theorem keys_req : ∀ {kvs : List (P × P)} {ks : List (Key × V)}, KReq K m H kvs ks → ReqP K m H (kvs.map (·.1)) (ks.map fun q => L2.kV q.1)
  | _, _, .nil => .nil
  | _, _, .cons (k := k) e _ r => .cons (by
      rw [e]
      cases k with
      | inl i => exact .int i
      | inr x => exact .str x) (keys_req r)
end
section
variable {fa : En → Sr → R Vl} {fs : En → Sr → R (List Vl)} {tgx : Expr} {p0 pos : Pos}
theorem xLdk {T0 : T} (hc : C.calm = true) (hg : Gl C "list") (hm : C.mg "list" = none) (ha : PA C [toE T0] (TrA C.K W fs)) :
    PE C (.Call (.Name "list" p0) [toE T0] [] pos) (TrE C.K W fun e s => (fs e s).bd ldkV) :=
  imE (L2.pe_callTy (L2.call_listD hc) hg hm PyProof.Rows.boot_list ha (by decide +kernel) (by decide) (star_cons _ _ _) (by rw [back_any]; rfl)) fun σ H Q ⟨O, ρ, e, st, R, h⟩ => ⟨O, ρ, e, st, R, End.bd R.S h fun x st1 ρ1 H1 v _ s1 S1 r1 h1 => by
    unfold ldkV at h1
    split at h1
    · rename_i x _
      cases r1 with
      | cons r0 r2 =>
        cases r2
        cases q : dat x st1 with
        | none => rw [q] at h1; exact h1.elim
        | some kvs =>
          rw [q] at h1
          obtain ⟨l, ks, rfl, hl, rr⟩ := dat_ok S1 q r0
          exact ⟨l, ks, rfl, hl, fun p hp => h1 ρ1 _ _ (Stp.new S1 hp) (S1.new hp) (rep_newL S1 hp (keys_req rr))⟩
    · exact h1.elim⟩
theorem itDv {K : Fg} {O : Addr → Prop} {ρ : Nat → Addr} {st : Sr} {H : Hp} {n k : Nat} {od : Obj} {kvs : List (P × P)} {ks : List (Key × V)} (S : RelS K O ρ H st) (hn : st[n]? = some (.dp (k + 1) kvs)) (hd : H (ρ n) = some (.frz od (.dK ks))) (r : KReq K (Mt O ρ st) H kvs ks) :
    ItOk K O ρ st H (kvs.map fun q => .p q.2) (L2.Itd (ρ n) od ks) := by
  have nl : ¬ live ρ st (ρ n) := fun ⟨m, o, q1, q2, q3⟩ => by
    have := S.inj m n (List.getElem?_eq_some_iff.mp q1).1 (List.getElem?_eq_some_iff.mp hn).1 q3
    subst this
    rw [hn] at q1
    cases q1
    simp [isLive] at q2
  have ll : ks.length = kvs.length := r.len.symm
  intro Xo O' ρ' st' H' xo w s S' i
  have nx : ¬ Xo (ρ n) := fun q => by
    rcases xo.t _ q with ⟨ws, e⟩ | ⟨ws, e⟩ <;> (rw [hd] at e; cases e)
  have hd' : H' (ρ n) = some (.frz od (.dK ks)) := s.kp _ _ hd nl nx fun ps z => nomatch z
  refine ⟨fun v hv => ?_, fun hi => ⟨hd', by simpa [ll] using hi⟩⟩
  obtain ⟨q, hq, rfl⟩ : ∃ q, kvs[i]? = some q ∧ v = .p q.2 := by
    rw [List.getElem?_map] at hv
    obtain ⟨q, h1, h2⟩ := Option.map_eq_some_iff.mp hv
    exact ⟨q, h1, h2.symm⟩
  obtain ⟨kk, u, h1, h2, h3⟩ := r.at hq
  refine ⟨⟨hd', (List.getElem?_eq_some_iff.mp h1).1⟩, fun x H'' ⟨e1, k', e2⟩ => ?_⟩
  subst e1
  rw [h1] at e2
  cases e2
  exact ⟨.rfl, S', RepP.goX S xo w s h3⟩
theorem dv_lk {σ : Sg} {H : Hp} {Rq : It → Hp → Prop} (h : TrI C.K W (fun e s => (fa e s).bd fun v s => dvlV v s) σ H Rq)
    {Kq : VK} (hK : ∀ d o kvs H1, H1 d = some (.frz o (.dK kvs)) → Rq (L2.Itd d o kvs) H1 → Kq (.ref d) H1) : tLk (TrE C.K W fa) σ H Kq := by
  obtain ⟨O, ρ, e, st, R, h⟩ := h
  refine ⟨O, ρ, e, st, R, End.bd R.S h fun x st1 ρ1 H1 v _ s1 S1 r1 h1 => ?_⟩
  unfold dvlV at h1
  split at h1
  · rename_i n _
    obtain ⟨hn, rfl⟩ := r1
    split at h1
    · rename_i kvs q
      obtain ⟨w, f1, ks, f2, f3⟩ := S1.ob n _ q
      rcases f2 with ⟨_, rfl⟩ | ⟨z, _⟩
      · refine ⟨_, ks, rfl, .inr ⟨f1, fun od => hK _ od ks _ upd_same ?_⟩⟩
        have s : Stp ρ1 st1 H1 ρ1 (st1.set n (.dp 1 kvs)) (L2.upd H1 (ρ1 n) (.frz od (.dK ks))) := Stp.upd q rfl (fun _ z => nomatch z) (fun _ _ z => nomatch z) (fun _ _ _ => ⟨_, _, rfl⟩) S1
        have f3' := f3.map fun h => h.stp S1 s
        have S2 := S1.upd q s ⟨ks, .inr ⟨by simp, od, rfl⟩, f3'⟩
        have hst : (st1.set n (.dp 1 kvs))[n]? = some (.dp 1 kvs) := by rw [List.getElem?_set_self hn]
        exact h1 ρ1 _ _ s S2 (itDv (k := 0) S2 hst upd_same f3')
      · exact absurd rfl z
    · rename_i k kvs q
      obtain ⟨w, f1, ks, f2, f3⟩ := S1.ob n _ q
      rcases f2 with ⟨z, _⟩ | ⟨z, od, rfl⟩
      · cases z
      · exact ⟨_, ks, rfl, .inl ⟨od, f1, hK _ od ks _ f1 (h1 ρ1 _ _ .rfl S1 (itDv S1 q f1 f3))⟩⟩
    · exact h1.elim
  · exact h1.elim
theorem xDvl {T0 : T} (hb : ∀ (nm : Str), attributeBase (toE T0) nm C.env (eval (toE T0) C.env) = eval (toE T0) C.env) (hl : (p0.endLine == pos.line) = true) (ha : PE C (toE T0) (TrE C.K W fa)) :
    PI C tgx (.Call (.Attribute (toE T0) "values" p0) [] [] pos) (TrI C.K W fun e s => (fa e s).bd fun v s => dvlV v s) :=
  imI (L2.pi_values (pe_lk ha) (hb _) hl) fun σ H Q h => dv_lk h fun d o kvs H1 h1 h2 => ⟨d, o, kvs, rfl, h1, h2⟩
end
end
end Mi
end
section
set_option Elab.async false
set_option linter.all false
set_option maxRecDepth 100000
set_option maxHeartbeats 1000000
/-! M19: what a tree asks of its context; facts of trees. -/
namespace Mi
open PySem
open L2 (V HO Hp upd upd_same upd_ne SqL SqT Rd Cx Inv PE PT PA PS PSs PG PGs PI TE TT TA TS TG TGs TI It VK XK Ends RelV Vals ne_of_none OpR R2 EP CallR UnR IxR SlR TruR Gl Vis Loc Itl Itt Itr wipe Room)
/-- the law's names: constants with their values, defs -/
structure Wd where
  gl : List P
  gn : List Str
  fn : List Str
  cn : List Str := []
/-- a frame's names -/
structure Ct where
  N : List Str
  sc : Scope
  fx : Str → Bool
def nmOk (x : Str) : Bool := !(x == ("__debug__" : Str)) && !(x == ("__classdict__" : Str)) && !(x == ("__name__" : Str))
def vis (c : Ct) (i : Nat) (x : Str) : Bool := decide (c.N[i]? = some x) && (c.sc.names.lookup x == some .local || c.sc.names.lookup x == some .cell || c.sc.names.lookup x == some .free) && nmOk x
def loc (c : Ct) (i : Nat) (x : Str) : Bool := decide (c.N[i]? = some x) && (c.sc.names.lookup x == some .local || (c.sc.names.lookup x == some .cell && c.fx x))
def glb (c : Ct) (x : Str) : Bool := c.sc.names.lookup x == some .globalImplicit && nmOk x
def Ct.blk (c : Ct) (scope : Scope) : Ct := ⟨c.N, L2.relS scope c.sc, fun x => scope.names.lookup x == some .cell⟩
structure Wf where
  e : Bool := false
  t : Bool := false
  a : Bool := false
  i : Bool := false
  iT : Bool := false
  s : Bool := false
  ss : Bool := false
  k : Bool := false
  ks : Bool := false
  b : Bool := false
  bt : Bool := false
  g : Bool := false
  gs : Bool := false
  o : Bool := false
  q : Bool := false
def isTupT : T → Bool
  | .tup _ _ _ => true
  | _ => false
def isNil : T → Bool
  | .nil => true
  | _ => false
def ns1 : T → Bool
  | .cons _ r => ns r
  | _ => false
def isBase : T → Bool
  | .v _ _ _ => true
  | .ix _ _ _ => true
  | _ => false
def isCp : T → Bool
  | .cp _ _ _ _ _ _ _ _ => true
  | .dcp _ _ _ _ _ _ _ _ => true
  | .cp2 _ _ _ _ _ _ _ _ _ _ _ _ => true
  | .dcp2 _ _ _ _ _ _ _ _ _ _ _ _ => true
  | .pl x => isCp x
  | .dwk x => isCp x
  | _ => false
def isCp0 : T → Bool
  | .cp _ _ _ _ _ _ _ _ => true
  | .cp2 _ _ _ _ _ _ _ _ _ _ _ _ => true
  | _ => false
/-- a written tuple -/
def isTupE : T → Bool
  | .tup _ _ _ => true
  | .pl x => isTupE x
  | .dwk x => isTupE x
  | _ => false
def isVar : T → Bool
  | .v _ _ _ => true
  | _ => false
/-- a comprehension that is stored as it is made -/
def swapB (c : Ct) : T → T → Bool
  | .v _ x px, .cp _ _ _ _ _ sc _ p => c.sc.names.lookup x == some .local && px.line == p.line && !(sc.names.any fun (n, k) => n == x && (k == .local || k == .cell))
  | .v _ x px, .cp2 _ _ _ _ _ _ _ _ sc _ _ p => c.sc.names.lookup x == some .local && px.line == p.line && !(sc.names.any fun (n, k) => n == x && (k == .local || k == .cell))
  | _, _ => false
def isDc : T → Bool
  | .dcp _ _ _ _ _ _ _ _ => true
  | .dcp2 _ _ _ _ _ _ _ _ _ _ _ _ => true
  | _ => false
def swapD (c : Ct) (x : Str) (px : Pos) : T → Bool
  | .dcp _ _ _ _ _ sc _ p => c.sc.names.lookup x == some .local && px.line == p.line && !(sc.names.any fun (n, k) => n == x && (k == .local || k == .cell))
  | _ => false
def args1 : T → Bool
  | .cons _ .nil => true
  | _ => false
def args3 : T → Bool
  | .cons _ (.cons _ (.cons _ .nil)) => true
  | _ => false
def args2 : T → Bool
  | .cons _ (.cons _ .nil) => true
  | _ => false
def okMe (f : Me) (a : T) : Bool := match f with
  | .rem => args1 a
  | .pop => args1 a
  | .ext => args1 a
  | _ => false
def okDm (f : Me) (a : T) : Bool := match f with
  | .sd => args2 a
  | .gt => args1 a || args2 a
  | _ => false
def vars2 (c : Ct) : T → Bool
  | .cons (.v i x _) (.cons (.v j y _) .nil) => decide (c.N[i]? = some x) && decide (c.N[j]? = some y) && decide (i ≠ j) && c.sc.names.lookup x == some .local && c.sc.names.lookup y == some .local
  | _ => false
def vars3 (c : Ct) : T → Bool
  | .cons (.v i x _) (.cons (.v j y _) (.cons (.v l z _) .nil)) => decide (c.N[i]? = some x) && decide (c.N[j]? = some y) && decide (c.N[l]? = some z) && decide (i ≠ j) && decide (i ≠ l) && decide (j ≠ l) && c.sc.names.lookup x == some .local && c.sc.names.lookup y == some .local && c.sc.names.lookup z == some .local
  | _ => false
def wf (w : Wd) : T → Ct → Wf
  | .c x _ _, c => { e := (ofC x).isSome, t := (ofC x).isSome }
  | .v i x _, c => { e := vis c i x, t := vis c i x, k := loc c i x, g := loc c i x }
  | .g i x _, c => { e := decide (w.gn[i]? = some x) && glb c x, t := decide (w.gn[i]? = some x) && glb c x }
  | .tup a _ _, c => { e := (wf w a c).a, t := (wf w a c).a, k := (wf w a c).ks && ns a, g := (wf w a c).gs && ns a }
  | .lst _ a _, c => { e := (wf w a c).a, t := (wf w a c).a }
  | .ix a b _, c => { e := (wf w a c).e && (wf w b c).e, t := (wf w a c).e && (wf w b c).e, k := (wf w a c).e && (wf w b c).e }
  | .sl a lo hi _ _, c => { e := (wf w a c).e && (wf w lo c).o && (wf w hi c).o, t := (wf w a c).e && (wf w lo c).o && (wf w hi c).o }
  | .rv a _ _ _ _ _, c => { e := (wf w a c).e, t := (wf w a c).e }
  | .bin a _ b _, c => { e := (wf w a c).e && (wf w b c).e, t := (wf w a c).e && (wf w b c).e }
  | .neg a _, c => { e := (wf w a c).e, t := (wf w a c).e }
  | .nt a _, c => { e := (wf w a c).e, t := (wf w a c).t }
  | .cmp a _ b _, c => { e := (wf w a c).e && (wf w b c).e, t := (wf w a c).e && (wf w b c).e }
  | .cm2 a _ b _ d _, c => { e := (wf w a c).e && (wf w b c).e && (wf w d c).e, t := (wf w a c).e && (wf w b c).e && (wf w d c).e }
  | .bo _ a _, c => { e := (wf w a c).b, t := (wf w a c).bt }
  | .ite d a b _, c => { e := (wf w d c).t && (wf w a c).e && (wf w b c).e }
  | .bi f x a _ _, c => { e := decide (x = biN f) && glb c x && (wf w a c).a && ns1 a, t := decide (x = biN f) && glb c x && (wf w a c).a && ns1 a }
  | .isi a ty _ _ _, c => { e := okTy ty && glb c "isinstance" && glb c ty && (wf w a c).e, t := okTy ty && glb c "isinstance" && glb c ty && (wf w a c).e }
  | .cal f _ x a _ _, c => { e := decide (w.fn[f]? = some x) && glb c x && (wf w a c).a && ns a, t := decide (w.fn[f]? = some x) && glb c x && (wf w a c).a && ns a }
  | .lrg x a _ _ _ _, c => { e := decide (x = "list") && glb c "list" && glb c "range" && (wf w a c).a && ns1 a, t := decide (x = "list") && glb c "list" && glb c "range" && (wf w a c).a && ns1 a }
  | .lzp a _ _ _ _, c => { e := glb c "list" && glb c "zip" && (wf w a c).a && ns1 a, t := glb c "list" && glb c "zip" && (wf w a c).a && ns1 a }
  | .lsm a _ _, c => { e := glb c "list" && (wf w a c).a && args1 a }
  | .rpm a b _, c => { e := (wf w a c).e && (wf w b c).e }
  | .cp _ elt tg it cond sc own _, c => { e := ((wf w it c).i || (isTupT tg && (wf w it c).iT)) && L2.blkC c.N c.sc sc own && nmT (own.map (·.2)) tg && (wf w tg (c.blk sc)).g && (wf w cond (c.blk sc)).q && (wf w elt (c.blk sc)).e, t := ((wf w it c).i || (isTupT tg && (wf w it c).iT)) && L2.blkC c.N c.sc sc own && nmT (own.map (·.2)) tg && (wf w tg (c.blk sc)).g && (wf w cond (c.blk sc)).q && (wf w elt (c.blk sc)).e }
  | .cp2 _ elt tg it cond tg1 it1 cond1 sc own own1 _, c => { e := (((wf w it c).i || (isTupT tg && (wf w it c).iT)) && L2.blkC c.N c.sc sc own && nmT (own.map (·.2)) tg && (wf w tg (c.blk sc)).g && (wf w cond (c.blk sc)).q && (wf w elt (c.blk sc)).e) && (((wf w it1 (c.blk sc)).i || (isTupT tg1 && (wf w it1 (c.blk sc)).iT)) && nmT own1 tg1 && (own1.all fun i => (own.map (·.2)).contains i) && (wf w tg1 (c.blk sc)).g && (wf w cond1 (c.blk sc)).q), t := (((wf w it c).i || (isTupT tg && (wf w it c).iT)) && L2.blkC c.N c.sc sc own && nmT (own.map (·.2)) tg && (wf w tg (c.blk sc)).g && (wf w cond (c.blk sc)).q && (wf w elt (c.blk sc)).e) && (((wf w it1 (c.blk sc)).i || (isTupT tg1 && (wf w it1 (c.blk sc)).iT)) && nmT own1 tg1 && (own1.all fun i => (own.map (·.2)).contains i) && (wf w tg1 (c.blk sc)).g && (wf w cond1 (c.blk sc)).q) }
  | .dcp2 kx vx tg it cond tg1 it1 cond1 sc own own1 _, c => { e := ((((wf w it c).i || (isTupT tg && (wf w it c).iT)) && L2.blkC c.N c.sc sc own && nmT (own.map (·.2)) tg && (wf w tg (c.blk sc)).g && (wf w cond (c.blk sc)).q && (wf w vx (c.blk sc)).e) && (((wf w it1 (c.blk sc)).i || (isTupT tg1 && (wf w it1 (c.blk sc)).iT)) && nmT own1 tg1 && (own1.all fun i => (own.map (·.2)).contains i) && (wf w tg1 (c.blk sc)).g && (wf w cond1 (c.blk sc)).q)) && (wf w kx (c.blk sc)).e }
  | .ldk a _ _, c => { e := glb c "list" && (wf w a c).a && args1 a }
  | .dvl o p0 p, c => { i := (wf w o c).e && p0.endLine == p.line && isBase o }
  | .app o x p0 p, c => { e := (wf w o c).e && (wf w x c).e && p0.endLine == p.line && isBase o }
  | .met f o a p0 p, c => { e := (wf w o c).e && (wf w a c).a && p0.endLine == p.line && isBase o && okMe f a }
  | .sb b a _ _ _ _, c => { e := glb c (if b then "sorted" else "len") && glb c "set" && (wf w a c).e, t := glb c (if b then "sorted" else "len") && glb c "set" && (wf w a c).e }
  | .dct0 _, c => { e := true }
  | .dct1 a b _, c => { e := (wf w a c).e && (wf w b c).e }
  | .dcp kx vx tg it cond sc own _, c => { e := ((wf w it c).i || (isTupT tg && (wf w it c).iT)) && L2.blkC c.N c.sc sc own && nmT (own.map (·.2)) tg && (wf w tg (c.blk sc)).g && (wf w cond (c.blk sc)).q && (wf w vx (c.blk sc)).e && (wf w kx (c.blk sc)).e }
  | .isx a D _ _ _, c => { e := (decide (D ∈ w.cn) || D == "ValueError") && glb c "isinstance" && glb c D && (wf w a c).e, t := (decide (D ∈ w.cn) || D == "ValueError") && glb c "isinstance" && glb c D && (wf w a c).e }
  | .vlu a _, c => { e := (wf w a c).e && isBase a }
  | .mkx x a _ _, c => { e := decide (x ∈ w.cn) && glb c x && (wf w a c).e }
  | .shr a _ _, c => { e := glb c "repr" && (wf w a c).e }
  | .dv0 _, _ => { e := true }
  | .dvc k _ _ v _ _ _, _ => { e := (ofC k).isSome && (ofC v).isSome }
  | .dix a b _, c => { e := (wf w a c).e && (wf w b c).e, t := (wf w a c).e && (wf w b c).e }
  | .din _ a b _, c => { e := (wf w a c).e && (wf w b c).e, t := (wf w a c).e && (wf w b c).e }
  | .dme f o a p0 p, c => { e := (wf w o c).e && (wf w a c).a && p0.endLine == p.line && isBase o && okDm f a }
  | .itm o p0 p, c => { iT := (wf w o c).e && p0.endLine == p.line && isBase o }
  | .dwk o, c => { i := (wf w o c).e }
  | .das i x px d p, c => { s := (wf w d c).e && loc c i x && isDc d }
  | .dst a b e _ _, c => { s := (wf w e c).e && (wf w a c).e && (wf w b c).e && !isCp e }
  | .dag a b _ e _ _, c => { s := (wf w a c).e && (wf w b c).e && (wf w e c).e }
  | .pl x, c => { e := (wf w x c).e, t := (wf w x c).t, i := (wf w x c).e, o := (wf w x c).e }
  | .rg a _ _, c => { i := glb c "range" && (wf w a c).a && (args1 a || args2 a || args3 a) }
  | .en a _ _, c => { iT := glb c "enumerate" && (wf w a c).a && args1 a }
  | .zp a _ _, c => { iT := glb c "zip" && (wf w a c).a && args2 a }
  | .ez a _ _ _ _, c => { iT := glb c "enumerate" && glb c "zip" && (wf w a c).a && args2 a }
  | .nil, _ => { a := true, ss := true, ks := true, gs := true, o := true, q := true }
  | .cons a b, c => { a := (wf w a c).e && (wf w b c).a, ss := (wf w a c).s && (wf w b c).ss, ks := (wf w a c).k && (wf w b c).ks, gs := (wf w a c).g && (wf w b c).gs, b := (wf w a c).e && (isNil b || (wf w b c).b), bt := (wf w a c).t && (isNil b || (wf w b c).bt), q := (wf w a c).t && isNil b }
  | .star a b _, c => { a := (wf w a c).e && (wf w b c).a }
  | .as t e _, c => { s := (wf w e c).e && (if isCp0 e && isVar t then (wf w t c).k else (wf w t c).k && !isCp e && (isBase t || (isTupT t && !isTupE e))) }
  | .pa ts es _ _ _ _ _, c => { s := (wf w es c).a && ((swNone c.sc (toEs ts) (toEs es) && (wf w ts c).ks && ns ts && ns es && decide (cnt ts = cnt es) && decide (cnt ts ≤ 1000)) || (swSome c.sc (toEs ts) (toEs es) && ((vars2 c ts && args2 es) || (vars3 c ts && decide (cnt es = 3) && ns es)))) }
  | .ag t _ e _, c => { s := (wf w e c).e && (wf w t c).g && isVar t }
  | .agI a b _ e _ _, c => { s := (wf w a c).e && (wf w b c).e && (wf w e c).e }
  | .iff d a b _, c => { s := (wf w d c).t && (wf w a c).ss && (wf w b c).ss }
  | .wh d b _, c => { s := (wf w d c).t && (wf w b c).ss }
  | .fo t it b _, c => { s := ((wf w it c).i || (isTupT t && (wf w it c).iT)) && (wf w t c).k && (wf w b c).ss }
  | .re e _, c => { s := (wf w e c).e }
  | .exs e _, c => { s := (wf w e c).e && !isCp e }
  | .bk _, _ => { s := true }
  | .ct _, _ => { s := true }
  | .ps _, _ => { s := true }
  | .ra _ _, _ => { s := true }
  | .rax x a _ _ _, c => { s := decide (x ∈ w.cn) && glb c x && (wf w a c).e }
  | .xs _, _ => { s := true }
/-- what code may lean on -/
def bnames : List Str := ["len", "int", "abs", "max", "min", "sum", "all", "any", "tuple", "list", "sorted", "isinstance", "bool", "str", "dict", "range", "enumerate", "zip", "set", "repr", "ValueError", "super"]
/-- a class of errors by its name, with what __init__ does -/
def ErrG (cl : Str → Value) (w : Wd) (K : Fg) (mg : Str → Option Value) (P : Program) : Prop := ∀ c ∈ w.cn, ∃ (Ca CEa fI : Addr) (fd : FuncData), ErrF K CEa fI c Ca ∧ mg c = some (.ref Ca) ∧ cl c = .ref Ca ∧ L2.Binds K fd ["self", "value"] [] ∧
  ∀ (wd : World) (base : Heap) (k : Nat), L2.FnOk P wd K mg base CXn (k + 1) fI fd ["self", "value"] (iniSp K CEa)
structure Gd (cl : Str → Value) (w : Wd) (F : Nat → List Vl → Sr → R Vl) (c : Ct) (C : Cx) (E : XK) : Prop where
  calm : C.calm = true
  N : C.N = c.N
  nd : c.N.Nodup
  sc : C.env.scope = c.sc
  kd : c.sc.kind = .function
  fx : ∀ x, c.fx x = true → C.fn x = true
  tk : L2.Takes C fun k d _ H => E k d H
  gu : C.A.guards = some []
  gl : ∀ (i : Nat) (x : Str), w.gn[i]? = some x → ∃ (u : Value) (v : V) (d : P), C.mg x = some u ∧ RelV v u ∧ w.gl[i]? = some d ∧ ∀ m H, RepP C.K m H d v
  bn : ∀ x ∈ bnames, C.mg x = none
  er : ErrG cl w C.K C.mg C.prog
  lv : ∃ k, Room k C.A ∧ 3 ≤ k ∧ ∀ (i : Nat) (x : Str), w.fn[i]? = some x → ∃ (f : Addr) (fd : FuncData) (ps : List Str), C.mg x = some (.ref f) ∧ PySem.W.keepIn C.K (.ref f) = true ∧ L2.Binds C.K fd ps [] ∧ FnG cl C.prog C.w C.K C.mg C.base k f fd ps (F i) ∧ ∀ as st, F i as st ≠ .no → as.length = ps.length
section
variable {cl : Str → Value} {w : Wd} {F : Nat → List Vl → Sr → R Vl} {c : Ct} {C : Cx} {E : XK}
theorem Gd.un (g : Gd cl w F c C E) : C.A.units + 65 < cLine := by
  obtain ⟨k, r, _⟩ := g.lv
  have := r.un
  omega
theorem Gd.blk (g : Gd cl w F c C E) {scope : Scope} (hk : scope.kind = .function) (s : Shared) (H : Hp) (Cc : Addr) (cs : List (Str × Addr)) (fp : List Addr) : Gd cl w F (c.blk scope) (C.blk s H scope (compEnvC scope cs Cc C.env) fp) (fun _ _ _ => False) := by
  refine ⟨g.calm, g.N, g.nd, ?_, hk, fun x h => h, ?_, g.gu, g.gl, g.bn, g.er, g.lv⟩
  · show L2.relS scope C.env.scope = L2.relS scope c.sc
    rw [g.sc]
  · rintro u s' ⟨a, B, sI, pins, σ, H, cls, d, e, I, nb, up, sky, na, os, ag, w⟩
    exact w.elim
theorem Gd.glb (g : Gd cl w F c C E) {x : Str} (h : glb c x = true) : Gl C x ∧ (x == ("__debug__" : Str)) = false ∧ x ≠ "__name__" := by
  unfold Mi.glb nmOk at h
  simp only [Bool.and_eq_true, beq_iff_eq, Bool.not_eq_true'] at h
  refine ⟨?_, by simpa using h.2.1.1, by simpa using h.2.2⟩
  show C.env.scope.names.lookup x = _
  rw [g.sc]
  exact h.1
theorem Gd.vis (g : Gd cl w F c C E) {i : Nat} {x : Str} (h : vis c i x = true) : C.N[i]? = some x ∧ Vis C.env.scope x ∧ (x == ("__debug__" : Str)) = false ∧ (x == ("__classdict__" : Str)) = false := by
  unfold Mi.vis nmOk at h
  simp only [Bool.and_eq_true, Bool.or_eq_true, beq_iff_eq, Bool.not_eq_true', decide_eq_true_eq] at h
  refine ⟨by rw [g.N]; exact h.1.1, ?_, by simpa using h.2.1.1, by simpa using h.2.1.2⟩
  rw [g.sc]
  rcases h.1.2 with (q | q) | q
  · exact .inl q
  · exact .inr (.inl q)
  · exact .inr (.inr q)
theorem Gd.loc (g : Gd cl w F c C E) {i : Nat} {x : Str} (h : loc c i x = true) : C.N.Nodup ∧ C.N[i]? = some x ∧ Loc C.env.scope x ∧ (C.fn x = true ∨ C.env.scope.names.lookup x = some .local) := by
  unfold Mi.loc at h
  simp only [Bool.and_eq_true, Bool.or_eq_true, beq_iff_eq, decide_eq_true_eq] at h
  refine ⟨by rw [g.N]; exact g.nd, by rw [g.N]; exact h.1, ?_, ?_⟩
  · rw [g.sc]
    rcases h.2 with q | q
    · exact .inl q
    · exact .inr q.1
  · rw [g.sc]
    rcases h.2 with q | q
    · exact .inr q
    · exact .inl (g.fx x q.2)
end
/-! ### shapes -/
theorem noMk (o : CmpOp) (t : T) : behindInMarks o (toE t) = false := by
  induction t with
  | pl x ih => exact ih
  | dwk x ih => exact ih
  | _ => rfl
theorem plainIx (t : T) : L2.PlainIx (toE t) := by
  induction t with
  | pl x ih => exact ih
  | dwk x ih => exact ih
  | _ => exact fun _ _ => rfl
theorem asgIx (a b : T) (pos : Pos) (env : Env) (v : Value) : assign (.Subscript (toE a) (toE b) pos) env v = (do
      let ov ← holding [v] (eval (toE a) env)
      let iv ← holding [v, ov] (eval (toE b) env)
      standAt pos
      holding [v, ov, iv] (setItem ov iv v)
      release [v, ov, iv] []) := by
  induction b with
  | pl x ih => exact ih
  | dwk x ih => exact ih
  | _ => rfl
theorem augIx (t : T) (ov iv new : Value) : augStore (toE t) ov iv new = (do holding [new, ov, iv] (setItem ov iv new); release [new, ov, iv] []; pure .next) := by
  induction t with
  | pl x ih => exact ih
  | dwk x ih => exact ih
  | _ => rfl
theorem asgCons (t : T) (es : List Expr) (env : Env) : assignEach (toE t :: es) env = (false, assign (toE t) env) :: assignEach es env := by
  induction t with
  | pl x ih => exact ih
  | dwk x ih => exact ih
  | _ => rfl
theorem asgEs (env : Env) : ∀ t : T, ns t = true → (assignEach (toEs t) env).length = cnt t ∧ (assignEach (toEs t) env).findIdx? (·.1) = none
  | .nil, _ => ⟨rfl, rfl⟩
  | .cons a b, h => by
    have ih := asgEs env b h
    show (assignEach (toE a :: toEs b) env).length = _ ∧ (assignEach (toE a :: toEs b) env).findIdx? (·.1) = none
    rw [asgCons]
    exact ⟨by simp [ih.1, cnt], by rw [List.findIdx?_cons]; simp [ih.2]⟩
theorem foldNo (t : T) (env : Env) (x : Value) : foldedSetIterable (toE t) env x = pure x := by
  induction t with
  | pl x ih => exact ih
  | dwk x ih => exact ih
  | _ => rfl
theorem swFalse (t : T) (h : isCp t = false) (tg : Option Expr) (l : Nat) (env : Env) : swapsWith (toE t) tg l env = pure false := by
  induction t with
  | pl x ih => exact ih h
  | dwk x ih => exact ih h
  | cp => cases h
  | dcp => cases h
  | cp2 => cases h
  | dcp2 => cases h
  | _ => rfl
theorem swTup (a : T) (k : Nat) (p : Pos) (e : T) (h : isTupE e = false) (env : Env) : swappedStores [.Tuple (toEs a) k p] (toE e) env = pure none := by
  induction e with
  | pl x ih => exact ih h
  | dwk x ih => exact ih h
  | tup => cases h
  | _ => rfl
theorem swSts (t e : T) (h : (isBase t || (isTupT t && !isTupE e)) = true) (env : Env) : swappedStores [toE t] (toE e) env = pure none := by
  cases t with
  | v i x p => rfl
  | ix a b p => rfl
  | tup a k p =>
    have h' : isTupE e = false := by simpa [isBase, isTupT] using h
    exact swTup a k p e h' env
  | _ => cases h
section
variable (gl : List P) (F : Nat → List Vl → Sr → R Vl)
theorem a_len : ∀ (t : T), ns t = true → ∀ e s xs s', (sem gl F t).a e s = .ok xs s' → xs.length = cnt t
  | .nil, _, e, s, xs, s', h => by
    have h' : (.ok [] s : R (List Vl)) = .ok xs s' := h
    cases h'; rfl
  | .cons a b, hn, e, s, xs, s', h => by
    have h' : ((sem gl F a).e e s).bd (fun v s => ((sem gl F b).a e s).bd fun vs s => .ok (v :: vs) s) = .ok xs s' := h
    cases q : (sem gl F a).e e s with
    | ok v s1 =>
      rw [q] at h'
      have h2 : ((sem gl F b).a e s1).bd (fun vs s => .ok (v :: vs) s) = .ok xs s' := h'
      cases q2 : (sem gl F b).a e s1 with
      | ok vs s2 =>
        rw [q2] at h2
        cases h2
        simp [cnt, a_len b hn e s1 vs s' q2]
      | ex c x s => rw [q2] at h2; cases h2
      | no => rw [q2] at h2; cases h2
    | ex c x s => rw [q] at h'; cases h'
    | no => rw [q] at h'; cases h'
theorem only_no : onlyN .no := ⟨fun _ _ => ⟨by simp, by simp⟩, fun _ _ => by simp⟩
theorem only_ex {c : Str} {x : P} {s : Sr} : onlyN (.ex c x s) := ⟨fun _ _ => ⟨by simp, by simp⟩, fun _ _ => by simp⟩
theorem only_nx {e : En} {s : Sr} : onlyN (.nx e s) := ⟨fun _ _ => ⟨by simp, by simp⟩, fun _ _ => by simp⟩
theorem only_bx {α : Type} {m : R α} {f : α → Sr → X} (h : ∀ a s, onlyN (f a s)) : onlyN (m.bx f) := by
  cases m with
  | ok a s => exact h a s
  | ex c x s => exact only_ex
  | no => exact only_no
theorem only_k (t : T) : (∀ v e s, onlyN ((sem gl F t).k v e s)) ∧ ∀ vs e s, onlyN ((sem gl F t).ks vs e s) := by
  induction t with
  | v i x p => exact ⟨fun v e s => only_nx, fun _ _ _ => only_no⟩
  | tup a k p ih =>
    refine ⟨fun v e s => ?_, fun _ _ _ => only_no⟩
    show onlyN (kTup (cnt a) (sem gl F a) v e s)
    unfold kTup
    split
    · split
      · exact ih.2 _ _ _
      · exact only_no
    · exact only_no
  | ix a b p iha ihb =>
    refine ⟨fun v e s => ?_, fun _ _ _ => only_no⟩
    refine only_bx fun o s => only_bx fun i s => ?_
    split
    · exact only_nx
    · exact only_no
  | nil =>
    refine ⟨fun _ _ _ => only_no, fun vs e s => ?_⟩
    show onlyN (ksNil vs e s)
    unfold ksNil
    split
    · exact only_nx
    · exact only_no
  | cons a b iha ihb =>
    refine ⟨fun _ _ _ => only_no, fun vs e s => ?_⟩
    show onlyN (ksCons (sem gl F a) (sem gl F b) vs e s)
    unfold ksCons
    split
    · rename_i v r
      have := iha.1 v e s
      cases q : (sem gl F a).k v e s with
      | nx e' s' => exact ihb.2 _ _ _
      | ex c x s' => exact only_ex
      | no => exact only_no
      | rt a s' => rw [q] at this; exact absurd rfl (this.2 a s')
      | bk e' s' => rw [q] at this; exact absurd rfl (this.1 e' s').1
      | ct e' s' => rw [q] at this; exact absurd rfl (this.1 e' s').2
    · exact only_no
  | _ => exact ⟨fun _ _ _ => only_no, fun _ _ _ => only_no⟩
end
end Mi
end
section
set_option Elab.async false
set_option linter.all false
set_option maxRecDepth 100000
set_option maxHeartbeats 2000000
/-! M20: every tree that asks no more than its context has does in Python what it does here. -/
namespace Mi
open PySem
open L2 (V HO Hp upd upd_same upd_ne SqL SqT Rd Cx Inv PE PT PA PS PSs PG PGs PI TE TT TA TS TG TGs TI It VK XK Ends RelV Vals ne_of_none OpR R2 EP CallR UnR IxR SlR TruR Gl Vis Loc Itl Itt Itr wipe Room)
structure Ok (cl : Str → Value) (w : Wd) (F : Nat → List Vl → Sr → R Vl) (u : T) : Prop where
  e : ∀ c C E, Gd cl w F c C E → (wf w u c).e = true → PE C (toE u) (TrE C.K (WE cl E) (sem w.gl F u).e)
  t : ∀ c C E, Gd cl w F c C E → (wf w u c).t = true → PT C (toE u) (TrT C.K (WE cl E) fun e s => tst ((sem w.gl F u).e e s))
  a : ∀ c C E, Gd cl w F c C E → (wf w u c).a = true → PA C (toEs u) (TrA C.K (WE cl E) (sem w.gl F u).a)
  i : ∀ c C E, Gd cl w F c C E → (wf w u c).i = true → ∀ tg, PI C tg (toE u) (TrI C.K (WE cl E) (sem w.gl F u).i)
  iT : ∀ c C E, Gd cl w F c C E → (wf w u c).iT = true → ∀ elts kk tpos, PI C (.Tuple elts kk tpos) (toE u) (TrI C.K (WE cl E) (sem w.gl F u).i)
  s : ∀ c C E, Gd cl w F c C E → PassesOwn (model C.prog C.w) C.A C.env C.xe → (wf w u c).s = true → PS C (toS u) (TrS C.K (WE cl E) (sem w.gl F u).s)
  ss : ∀ c C E, Gd cl w F c C E → PassesOwn (model C.prog C.w) C.A C.env C.xe → (wf w u c).ss = true → PSs C (toSs u) (TrS C.K (WE cl E) (sem w.gl F u).s)
  k : ∀ c C E, Gd cl w F c C E → (wf w u c).k = true → PG C (toE u) (TrG C.K (WE cl E) (sem w.gl F u).k)
  ks : ∀ c C E, Gd cl w F c C E → (wf w u c).ks = true → PGs C (toEs u) (TrGs C.K (WE cl E) (sem w.gl F u).ks)
  b : ∀ c C E, Gd cl w F c C E → (wf w u c).b = true → ∀ op pos, PE C (.BoolOp op (toEs u) pos) (TrE C.K (WE cl E) ((sem w.gl F u).bo (op == .Or)))
  bt : ∀ c C E, Gd cl w F c C E → (wf w u c).bt = true → ∀ op pos, L2.PW C (.BoolOp op (toEs u) pos) (TrT C.K (WE cl E) fun e s => tst ((sem w.gl F u).bo (op == .Or) e s))
  g : ∀ c C E, Gd cl w F c C E → (wf w u c).g = true → PG C (toE u) (gE C.K u)
  gs : ∀ c C E, Gd cl w F c C E → (wf w u c).gs = true → PGs C (toEs u) (gEs C.K u)
  o : ∀ c C E, Gd cl w F c C E → (wf w u c).o = true → L2.PO C (toO u) (TrO C.K (WE cl E) (eOpt (sem w.gl F u)))
  q : ∀ c C E, Gd cl w F c C E → (wf w u c).q = true → L2.PTs C (toEs u) (TrT C.K (WE cl E) (cnd (sem w.gl F u)))
section
variable {cl : Str → Value} {w : Wd} {F : Nat → List Vl → Sr → R Vl}
theorem args1_ex {a : T} (h : args1 a = true) : ∃ x, a = .cons x .nil := by
  unfold args1 at h
  split at h
  · exact ⟨_, rfl⟩
  · cases h
/-- an expression: its test is its value's -/
theorem Ok.ofE {t : T} (he : ∀ c C E, Gd cl w F c C E → (wf w t c).e = true → PE C (toE t) (TrE C.K (WE cl E) (sem w.gl F t).e))
    (ht : ∀ c C E, Gd cl w F c C E → (wf w t c).t = true → PT C (toE t) (TrT C.K (WE cl E) fun e s => tst ((sem w.gl F t).e e s)))
    (hk : ∀ c C E, Gd cl w F c C E → (wf w t c).k = true → PG C (toE t) (TrG C.K (WE cl E) (sem w.gl F t).k) := by intro _ _ _ _ h; cases h)
    (hg : ∀ c C E, Gd cl w F c C E → (wf w t c).g = true → PG C (toE t) (gE C.K t) := by intro _ _ _ _ h; cases h)
    (n : ∀ c, (wf w t c).a = false ∧ (wf w t c).i = false ∧ (wf w t c).iT = false ∧ (wf w t c).s = false ∧ (wf w t c).ss = false ∧ (wf w t c).ks = false ∧ (wf w t c).b = false ∧ (wf w t c).bt = false ∧ (wf w t c).gs = false ∧ (wf w t c).o = false ∧ (wf w t c).q = false := by intro _; exact ⟨rfl, rfl, rfl, rfl, rfl, rfl, rfl, rfl, rfl, rfl, rfl⟩) : Ok cl w F t := by
  refine ⟨he, ht, ?_, ?_, ?_, ?_, ?_, hk, ?_, ?_, ?_, hg, ?_, ?_, ?_⟩
  · intro c C E _ h; rw [(n c).1] at h; cases h
  · intro c C E _ h; rw [(n c).2.1] at h; cases h
  · intro c C E _ h; rw [(n c).2.2.1] at h; cases h
  · intro c C E _ _ h; rw [(n c).2.2.2.1] at h; cases h
  · intro c C E _ _ h; rw [(n c).2.2.2.2.1] at h; cases h
  · intro c C E _ h; rw [(n c).2.2.2.2.2.1] at h; cases h
  · intro c C E _ h; rw [(n c).2.2.2.2.2.2.1] at h; cases h
  · intro c C E _ h; rw [(n c).2.2.2.2.2.2.2.1] at h; cases h
  · intro c C E _ h; rw [(n c).2.2.2.2.2.2.2.2.1] at h; cases h
  · intro c C E _ h; rw [(n c).2.2.2.2.2.2.2.2.2.1] at h; cases h
  · intro c C E _ h; rw [(n c).2.2.2.2.2.2.2.2.2.2] at h; cases h
/-- a statement -/
theorem Ok.ofS {t : T} (hs : ∀ c C E, Gd cl w F c C E → PassesOwn (model C.prog C.w) C.A C.env C.xe → (wf w t c).s = true → PS C (toS t) (TrS C.K (WE cl E) (sem w.gl F t).s))
    (n : ∀ c, (wf w t c).e = false ∧ (wf w t c).t = false ∧ (wf w t c).a = false ∧ (wf w t c).i = false ∧ (wf w t c).iT = false ∧ (wf w t c).ss = false ∧ (wf w t c).k = false ∧ (wf w t c).ks = false ∧ (wf w t c).b = false ∧ (wf w t c).bt = false ∧ (wf w t c).g = false ∧ (wf w t c).gs = false ∧ (wf w t c).o = false ∧ (wf w t c).q = false := by intro _; exact ⟨rfl, rfl, rfl, rfl, rfl, rfl, rfl, rfl, rfl, rfl, rfl, rfl, rfl, rfl⟩) : Ok cl w F t := by
  refine ⟨?_, ?_, ?_, ?_, ?_, hs, ?_, ?_, ?_, ?_, ?_, ?_, ?_, ?_, ?_⟩
  · intro c C E _ h; rw [(n c).1] at h; cases h
  · intro c C E _ h; rw [(n c).2.1] at h; cases h
  · intro c C E _ h; rw [(n c).2.2.1] at h; cases h
  · intro c C E _ h; rw [(n c).2.2.2.1] at h; cases h
  · intro c C E _ h; rw [(n c).2.2.2.2.1] at h; cases h
  · intro c C E _ _ h; rw [(n c).2.2.2.2.2.1] at h; cases h
  · intro c C E _ h; rw [(n c).2.2.2.2.2.2.1] at h; cases h
  · intro c C E _ h; rw [(n c).2.2.2.2.2.2.2.1] at h; cases h
  · intro c C E _ h; rw [(n c).2.2.2.2.2.2.2.2.1] at h; cases h
  · intro c C E _ h; rw [(n c).2.2.2.2.2.2.2.2.2.1] at h; cases h
  · intro c C E _ h; rw [(n c).2.2.2.2.2.2.2.2.2.2.1] at h; cases h
  · intro c C E _ h; rw [(n c).2.2.2.2.2.2.2.2.2.2.2.1] at h; cases h
  · intro c C E _ h; rw [(n c).2.2.2.2.2.2.2.2.2.2.2.2.1] at h; cases h
  · intro c C E _ h; rw [(n c).2.2.2.2.2.2.2.2.2.2.2.2.2] at h; cases h
theorem and1 {a b : Bool} (h : (a && b) = true) : a = true ∧ b = true := (Bool.and_eq_true a b).mp h
theorem and3 {a b c : Bool} (h : (a && b && c) = true) : a = true ∧ b = true ∧ c = true := let ⟨h1, h2⟩ := and1 h; let ⟨h3, h4⟩ := and1 h1; ⟨h3, h4, h2⟩
theorem and4 {a b c d : Bool} (h : (a && b && c && d) = true) : a = true ∧ b = true ∧ c = true ∧ d = true := let ⟨h1, h2⟩ := and1 h; let ⟨h3, h4, h5⟩ := and3 h1; ⟨h3, h4, h5, h2⟩
theorem ok_c (x : Const) (k : Nat) (p : Pos) : Ok cl w F (.c x k p) := by
  have he : ∀ c C E, Gd cl w F c C E → (wf w (.c x k p) c).e = true → PE C (toE (.c x k p)) (TrE C.K (WE cl E) (sem w.gl F (.c x k p)).e) := fun c C E g h => by
    obtain ⟨d, hd⟩ := Option.isSome_iff_exists.mp h
    exact xC hd
  exact .ofE he fun c C E g h => tVal (he c C E g h) fun _ => rfl
theorem ok_v (i : Nat) (x : Str) (p : Pos) : Ok cl w F (.v i x p) := by
  have he : ∀ c C E, Gd cl w F c C E → (wf w (.v i x p) c).e = true → PE C (toE (.v i x p)) (TrE C.K (WE cl E) (sem w.gl F (.v i x p)).e) := fun c C E g h => by
    obtain ⟨h1, h2, h3, h4⟩ := g.vis h
    exact xV h1 h2 h3 h4
  refine .ofE he (fun c C E g h => tVal (he c C E g h) fun _ => rfl) (fun c C E g h => ?_) fun c C E g h => ?_
  · obtain ⟨h1, h2, h3, h4⟩ := g.loc h
    exact gNm h1 h2 h3 h4
  · obtain ⟨h1, h2, h3, h4⟩ := g.loc h
    exact L2.pg_name h1 h2 h3 h4
theorem ok_g (i : Nat) (x : Str) (p : Pos) : Ok cl w F (.g i x p) := by
  have he : ∀ c C E, Gd cl w F c C E → (wf w (.g i x p) c).e = true → PE C (toE (.g i x p)) (TrE C.K (WE cl E) (sem w.gl F (.g i x p)).e) := fun c C E g h => by
    obtain ⟨h1, h2⟩ := and1 h
    obtain ⟨u, v, d, q1, q2, q3, q4⟩ := g.gl i x (of_decide_eq_true h1)
    obtain ⟨g1, g2, g3⟩ := g.glb h2
    exact xG g1 q1 q2 g2 q3 q4
  exact .ofE he fun c C E g h => tVal (he c C E g h) fun _ => rfl
theorem ok_tup {a : T} (k : Nat) (p : Pos) (iha : Ok cl w F a) : Ok cl w F (.tup a k p) := by
  have he : ∀ c C E, Gd cl w F c C E → (wf w (.tup a k p) c).e = true → PE C (toE (.tup a k p)) (TrE C.K (WE cl E) (sem w.gl F (.tup a k p)).e) := fun c C E g h => xTup (iha.a c C E g h)
  refine .ofE he (fun c C E g h => tVal (he c C E g h) fun _ => rfl) (fun c C E g h => ?_) fun c C E g h => ?_
  · obtain ⟨h1, h2⟩ := and1 h
    obtain ⟨n1, n2⟩ := asgEs C.env a h2
    exact gTup g.calm (iha.ks c C E g h1) n1 n2
  · obtain ⟨h1, h2⟩ := and1 h
    obtain ⟨n1, n2⟩ := asgEs C.env a h2
    exact L2.pg_tup g.calm (iha.gs c C E g h1) n1 n2
theorem ok_lst {a : T} (m : Bool) (p : Pos) (iha : Ok cl w F a) : Ok cl w F (.lst m a p) := by
  have he : ∀ c C E, Gd cl w F c C E → (wf w (.lst m a p) c).e = true → PE C (toE (.lst m a p)) (TrE C.K (WE cl E) (sem w.gl F (.lst m a p)).e) := fun c C E g h => xLst (iha.a c C E g h)
  exact .ofE he fun c C E g h => tVal (he c C E g h) fun _ => rfl
theorem ok_ix {a b : T} (p : Pos) (iha : Ok cl w F a) (ihb : Ok cl w F b) : Ok cl w F (.ix a b p) := by
  have he : ∀ c C E, Gd cl w F c C E → (wf w (.ix a b p) c).e = true → PE C (toE (.ix a b p)) (TrE C.K (WE cl E) (sem w.gl F (.ix a b p)).e) := fun c C E g h => xIx (iha.e c C E g (and1 h).1) (ihb.e c C E g (and1 h).2) (plainIx b)
  exact .ofE he (fun c C E g h => tVal (he c C E g h) fun _ => rfl) fun c C E g h => gIx (iha.e c C E g (and1 h).1) (ihb.e c C E g (and1 h).2) (asgIx a b p C.env)
theorem ok_sl {a lo hi : T} (p p2 : Pos) (iha : Ok cl w F a) (ihl : Ok cl w F lo) (ihh : Ok cl w F hi) : Ok cl w F (.sl a lo hi p p2) := by
  have he : ∀ c C E, Gd cl w F c C E → (wf w (.sl a lo hi p p2) c).e = true → PE C (toE (.sl a lo hi p p2)) (TrE C.K (WE cl E) (sem w.gl F (.sl a lo hi p p2)).e) := fun c C E g h =>
    xSl (iha.e c C E g (and3 h).1) (ihl.o c C E g (and3 h).2.1) (ihh.o c C E g (and3 h).2.2)
  exact .ofE he fun c C E g h => tVal (he c C E g h) fun _ => rfl
theorem ok_rv {a : T} (k : Nat) (p p1 p2 p3 : Pos) (iha : Ok cl w F a) : Ok cl w F (.rv a k p p1 p2 p3) := by
  have he : ∀ c C E, Gd cl w F c C E → (wf w (.rv a k p p1 p2 p3) c).e = true → PE C (toE (.rv a k p p1 p2 p3)) (TrE C.K (WE cl E) (sem w.gl F (.rv a k p p1 p2 p3)).e) := fun c C E g h => xRv (iha.e c C E g h)
  exact .ofE he fun c C E g h => tVal (he c C E g h) fun _ => rfl
theorem ok_bin {a b : T} (o : Operator) (p : Pos) (iha : Ok cl w F a) (ihb : Ok cl w F b) : Ok cl w F (.bin a o b p) := by
  have he : ∀ c C E, Gd cl w F c C E → (wf w (.bin a o b p) c).e = true → PE C (toE (.bin a o b p)) (TrE C.K (WE cl E) (sem w.gl F (.bin a o b p)).e) := fun c C E g h => xBin (iha.e c C E g (and1 h).1) (ihb.e c C E g (and1 h).2)
  exact .ofE he fun c C E g h => tVal (he c C E g h) fun _ => rfl
theorem ok_neg {a : T} (p : Pos) (iha : Ok cl w F a) : Ok cl w F (.neg a p) := by
  have he : ∀ c C E, Gd cl w F c C E → (wf w (.neg a p) c).e = true → PE C (toE (.neg a p)) (TrE C.K (WE cl E) (sem w.gl F (.neg a p)).e) := fun c C E g h => xNeg (iha.e c C E g h)
  exact .ofE he fun c C E g h => tVal (he c C E g h) fun _ => rfl
theorem ok_nt {a : T} (p : Pos) (iha : Ok cl w F a) : Ok cl w F (.nt a p) :=
  .ofE (fun c C E g h => xNt (iha.e c C E g h)) fun c C E g h => tNt (ft := fun _ _ => .no) (iha.t c C E g h)
theorem ok_cmp {a b : T} (o : CmpOp) (p : Pos) (iha : Ok cl w F a) (ihb : Ok cl w F b) : Ok cl w F (.cmp a o b p) :=
  .ofE (fun c C E g h => xCmp g.un (noMk o b) (iha.e c C E g (and1 h).1) (ihb.e c C E g (and1 h).2)) fun c C E g h => tCmp g.un (noMk o b) (iha.e c C E g (and1 h).1) (ihb.e c C E g (and1 h).2)
theorem ok_cm2 {a b d : T} (o q : CmpOp) (p : Pos) (iha : Ok cl w F a) (ihb : Ok cl w F b) (ihd : Ok cl w F d) : Ok cl w F (.cm2 a o b q d p) :=
  .ofE (fun c C E g h => xCm2 g.un (noMk q d) (iha.e c C E g (and3 h).1) (ihb.e c C E g (and3 h).2.1) (ihd.e c C E g (and3 h).2.2)) fun c C E g h => tCm2 g.un (noMk q d) (iha.e c C E g (and3 h).1) (ihb.e c C E g (and3 h).2.1) (ihd.e c C E g (and3 h).2.2)
theorem ok_bo {a : T} (o : BoolOp) (p : Pos) (iha : Ok cl w F a) : Ok cl w F (.bo o a p) :=
  .ofE (fun c C E g h => iha.b c C E g h o p) fun c C E g h => (iha.bt c C E g h o p).pt
theorem ok_ite {d a b : T} (p : Pos) (ihd : Ok cl w F d) (iha : Ok cl w F a) (ihb : Ok cl w F b) : Ok cl w F (.ite d a b p) :=
  .ofE (fun c C E g h => xIte (ihd.t c C E g (and3 h).1) (iha.e c C E g (and3 h).2.1) (ihb.e c C E g (and3 h).2.2)) fun c C E g h => by cases h
theorem ns1_ex {a : T} (h : ns1 a = true) : ∃ x r, a = .cons x r ∧ ns r = true := by
  cases a with
  | cons x r => exact ⟨x, r, rfl, h⟩
  | _ => cases h
theorem bn_mem (f : Bi) : biN f ∈ bnames := by cases f <;> simp [biN, bnames]
theorem ty_mem {ty : Str} (h : okTy ty = true) : ty ∈ bnames := by
  unfold okTy at h
  simp only [Bool.or_eq_true, beq_iff_eq] at h
  rcases h with ((((rfl | rfl) | rfl) | rfl) | rfl) | rfl <;> simp [bnames]
theorem ok_bi {a : T} (f : Bi) (x : Str) (p0 p : Pos) (iha : Ok cl w F a) : Ok cl w F (.bi f x a p0 p) := by
  have he : ∀ c C E, Gd cl w F c C E → (wf w (.bi f x a p0 p) c).e = true → PE C (toE (.bi f x a p0 p)) (TrE C.K (WE cl E) (sem w.gl F (.bi f x a p0 p)).e) := fun c C E g h => by
    obtain ⟨h1, h2, h3, h4⟩ := and4 h
    have hx := of_decide_eq_true h1
    subst hx
    obtain ⟨y, r, rfl, hr⟩ := ns1_ex h4
    exact xBi g.calm g.un (g.glb h2).1 (g.bn _ (bn_mem f)) hr (iha.a c C E g h3)
  exact .ofE he fun c C E g h => tVal (he c C E g h) fun _ => rfl
theorem ok_isi {a : T} (ty : Str) (p0 p1 p : Pos) (iha : Ok cl w F a) : Ok cl w F (.isi a ty p0 p1 p) := by
  have he : ∀ c C E, Gd cl w F c C E → (wf w (.isi a ty p0 p1 p) c).e = true → PE C (toE (.isi a ty p0 p1 p)) (TrE C.K (WE cl E) (sem w.gl F (.isi a ty p0 p1 p)).e) := fun c C E g h => by
    obtain ⟨h1, h2, h3, h4⟩ := and4 h
    exact xIsi h1 (g.glb h2).1 (g.bn _ (by simp [bnames])) (g.glb h3).1 (g.bn _ (ty_mem h1)) (iha.e c C E g h4)
  exact .ofE he fun c C E g h => tVal (he c C E g h) fun _ => rfl
theorem ok_cal {a : T} (f : Nat) (m : Bool) (x : Str) (p0 p : Pos) (iha : Ok cl w F a) : Ok cl w F (.cal f m x a p0 p) := by
  have he : ∀ c C E, Gd cl w F c C E → (wf w (.cal f m x a p0 p) c).e = true → PE C (toE (.cal f m x a p0 p)) (TrE C.K (WE cl E) (sem w.gl F (.cal f m x a p0 p)).e) := fun c C E g h => by
    obtain ⟨h1, h2, h3, h4⟩ := and4 h
    obtain ⟨k, hr, _, hf⟩ := g.lv
    obtain ⟨fa, fd, ps, q1, q2, q3, q4, q5⟩ := hf f x (of_decide_eq_true h1)
    obtain ⟨g1, g2, g3⟩ := g.glb h2
    have ha := iha.a c C E g h3
    cases a with
    | nil => exact xCal0 q4 hr g.gu q3 g.tk q5 g1 q1 q2 g2 fun _ _ => rfl
    | cons y r => exact xCal q4 hr g.gu q3 g.tk q5 g1 q1 q2 g2 h4 ha
    | _ => cases h4
  exact .ofE he fun c C E g h => tVal (he c C E g h) fun _ => rfl
theorem ok_lzp {a : T} (p0 p1 p2 p : Pos) (iha : Ok cl w F a) : Ok cl w F (.lzp a p0 p1 p2 p) := by
  have he : ∀ c C E, Gd cl w F c C E → (wf w (.lzp a p0 p1 p2 p) c).e = true → PE C (toE (.lzp a p0 p1 p2 p)) (TrE C.K (WE cl E) (sem w.gl F (.lzp a p0 p1 p2 p)).e) := fun c C E g h => by
    obtain ⟨h1, h2, h3, h4⟩ := and4 h
    obtain ⟨y, r, rfl, hr⟩ := ns1_ex h4
    exact xLzp g.calm (g.glb h1).1 (g.bn _ (by simp [bnames])) (g.glb h2).1 (g.bn _ (by simp [bnames])) hr (iha.a c C E g h3)
  exact .ofE he fun c C E g h => tVal (he c C E g h) fun _ => rfl
theorem ok_lsm {a : T} (p0 p : Pos) (iha : Ok cl w F a) : Ok cl w F (.lsm a p0 p) := by
  refine .ofE (fun c C E g h => ?_) fun c C E g h => by cases h
  obtain ⟨h1, h2, h3⟩ := and3 h
  obtain ⟨x, rfl⟩ := args1_ex h3
  exact xLsm (g.glb h1).1 (g.bn _ (by simp [bnames])) (iha.a c C E g h2)
theorem ok_rpm {a b : T} (p : Pos) (iha : Ok cl w F a) (ihb : Ok cl w F b) : Ok cl w F (.rpm a b p) :=
  .ofE (fun c C E g h => xRpm (iha.e c C E g (and1 h).1) (ihb.e c C E g (and1 h).2)) fun c C E g h => by cases h
theorem ok_lrg {a : T} (x : Str) (p0 p1 p2 p : Pos) (iha : Ok cl w F a) : Ok cl w F (.lrg x a p0 p1 p2 p) := by
  have he : ∀ c C E, Gd cl w F c C E → (wf w (.lrg x a p0 p1 p2 p) c).e = true → PE C (toE (.lrg x a p0 p1 p2 p)) (TrE C.K (WE cl E) (sem w.gl F (.lrg x a p0 p1 p2 p)).e) := fun c C E g h => by
    obtain ⟨h1234, h5⟩ := and1 h
    obtain ⟨h1, h2, h3, h4⟩ := and4 h1234
    have hx := of_decide_eq_true h1
    subst hx
    obtain ⟨y, r, rfl, hr⟩ := ns1_ex h5
    exact xLrg g.calm (g.glb h2).1 (g.bn _ (by simp [bnames])) (g.glb h3).1 (g.bn _ (by simp [bnames])) hr (iha.a c C E g h4)
  exact .ofE he fun c C E g h => tVal (he c C E g h) fun _ => rfl
theorem ok_sb {a : T} (b : Bool) (p0 p1 p2 p : Pos) (iha : Ok cl w F a) : Ok cl w F (.sb b a p0 p1 p2 p) := by
  have he : ∀ c C E, Gd cl w F c C E → (wf w (.sb b a p0 p1 p2 p) c).e = true → PE C (toE (.sb b a p0 p1 p2 p)) (TrE C.K (WE cl E) (sem w.gl F (.sb b a p0 p1 p2 p)).e) := fun c C E g h => by
    obtain ⟨h2, h3, h4⟩ := and3 h
    cases b with
    | true => exact xSetS g.calm (g.glb h2).1 (g.bn _ (by simp [bnames])) (g.glb h3).1 (g.bn _ (by simp [bnames])) (iha.e c C E g h4)
    | false => exact xSet0 g.calm (g.glb h2).1 (g.bn _ (by simp [bnames])) (g.glb h3).1 (g.bn _ (by simp [bnames])) (iha.e c C E g h4)
  exact .ofE he fun c C E g h => tVal (he c C E g h) fun _ => rfl
theorem ok_met {o a : T} (f : Me) (p0 p : Pos) (iho : Ok cl w F o) (iha : Ok cl w F a) : Ok cl w F (.met f o a p0 p) := by
  refine .ofE (fun c C E g h => ?_) fun c C E g h => by cases h
  obtain ⟨h1234, h5⟩ := and1 h
  obtain ⟨h1, h2, h3, h4⟩ := and4 h1234
  have hb : ∀ nm, attributeBase (toE o) nm C.env (eval (toE o) C.env) = eval (toE o) C.env := fun nm => by
    cases o with
    | v => rfl
    | ix => rfl
    | _ => cases h4
  cases f with
  | rem =>
    obtain ⟨x, rfl⟩ := args1_ex h5
    exact xRem hb h3 (iho.e c C E g h1) (iha.a c C E g h2)
  | pop =>
    obtain ⟨x, rfl⟩ := args1_ex h5
    exact xPop hb h3 (iho.e c C E g h1) (iha.a c C E g h2)
  | ext =>
    obtain ⟨x, rfl⟩ := args1_ex h5
    exact xExt hb h3 (iho.e c C E g h1) (iha.a c C E g h2)
  | _ => cases h5
theorem ok_app {o x : T} (p0 p : Pos) (iho : Ok cl w F o) (ihx : Ok cl w F x) : Ok cl w F (.app o x p0 p) := by
  refine .ofE (fun c C E g h => ?_) fun c C E g h => by cases h
  obtain ⟨h1, h2, h3, h4⟩ := and4 h
  refine xApp (fun nm => ?_) h3 (iho.e c C E g h1) (ihx.e c C E g h2)
  cases o with
  | v => rfl
  | ix => rfl
  | _ => cases h4
/-! dicts -/
theorem ok_dct0 (p : Pos) : Ok cl w F (.dct0 p) := .ofE (fun c C E g h => xD0) fun c C E g h => by cases h
theorem ok_dct1 {a b : T} (p : Pos) (iha : Ok cl w F a) (ihb : Ok cl w F b) : Ok cl w F (.dct1 a b p) := .ofE (fun c C E g h => xD1 (iha.e c C E g (and1 h).1) (ihb.e c C E g (and1 h).2)) fun c C E g h => by cases h
theorem ok_dix {a b : T} (p : Pos) (iha : Ok cl w F a) (ihb : Ok cl w F b) : Ok cl w F (.dix a b p) := by
  have he : ∀ c C E, Gd cl w F c C E → (wf w (.dix a b p) c).e = true → PE C (toE (.dix a b p)) (TrE C.K (WE cl E) (sem w.gl F (.dix a b p)).e) := fun c C E g h => xDix g.un (iha.e c C E g (and1 h).1) (ihb.e c C E g (and1 h).2) (plainIx b)
  exact .ofE he fun c C E g h => tVal (he c C E g h) fun _ => rfl
theorem ok_din {a b : T} (n : Bool) (p : Pos) (iha : Ok cl w F a) (ihb : Ok cl w F b) : Ok cl w F (.din n a b p) :=
  .ofE (fun c C E g h => xDin g.un (noMk _ b) (iha.e c C E g (and1 h).1) (ihb.e c C E g (and1 h).2)) fun c C E g h => tDin g.un (noMk _ b) (iha.e c C E g (and1 h).1) (ihb.e c C E g (and1 h).2)
theorem base_at {o : T} (h : isBase o = true) {C : Cx} : ∀ nm, attributeBase (toE o) nm C.env (eval (toE o) C.env) = eval (toE o) C.env := fun nm => by
  cases o with
  | v => rfl
  | ix => rfl
  | _ => cases h
theorem args2_ex' {a : T} (h : args2 a = true) : ∃ x y, a = .cons x (.cons y .nil) := by
  unfold args2 at h
  split at h
  · exact ⟨_, _, rfl⟩
  · cases h
theorem ok_dme {o a : T} (f : Me) (p0 p : Pos) (iho : Ok cl w F o) (iha : Ok cl w F a) : Ok cl w F (.dme f o a p0 p) := by
  refine .ofE (fun c C E g h => ?_) fun c C E g h => by cases h
  obtain ⟨h1234, h5⟩ := and1 h
  obtain ⟨h1, h2, h3, h4⟩ := and4 h1234
  cases f with
  | sd =>
    obtain ⟨x, y, rfl⟩ := args2_ex' h5
    exact xDme2 (.inl rfl) g.un (base_at h4) h3 (iho.e c C E g h1) (iha.a c C E g h2)
  | gt =>
    rcases (Bool.or_eq_true _ _).mp h5 with q | q
    · obtain ⟨x, rfl⟩ := args1_ex q
      exact xDme1 g.un (base_at h4) h3 (iho.e c C E g h1) (iha.a c C E g h2)
    · obtain ⟨x, y, rfl⟩ := args2_ex' q
      exact xDme2 (.inr rfl) g.un (base_at h4) h3 (iho.e c C E g h1) (iha.a c C E g h2)
  | _ => cases h5
/-- the parts of a comprehension -/
theorem cp_parts {elt tg it cond : T} {sc : Scope} {own : List (Str × Nat)} {c : Ct} {C : Cx} {E : XK} (g : Gd cl w F c C E)
    (h : (((wf w it c).i || (isTupT tg && (wf w it c).iT)) && L2.blkC c.N c.sc sc own && nmT (own.map (·.2)) tg && (wf w tg (c.blk sc)).g && (wf w cond (c.blk sc)).q && (wf w elt (c.blk sc)).e) = true)
    (ihe : Ok cl w F elt) (iht : Ok cl w F tg) (ihi : Ok cl w F it) (ihc : Ok cl w F cond) :
    PI C (toE tg) (toE it) (TrI C.K (WE cl E) (sem w.gl F it).i) ∧ L2.BlkOk C.N C.env.scope sc own ∧ nmT (own.map (·.2)) tg = true ∧
    (∀ (s : Shared) (H : Hp) (Cc : Addr) (cs : List (Str × Addr)) (fp : List Addr), PG (C.blk s H sc (compEnvC sc cs Cc C.env) fp) (toE tg) (gE C.K tg)) ∧
    (∀ (s : Shared) (H : Hp) (Cc : Addr) (cs : List (Str × Addr)) (fp : List Addr), L2.PTs (C.blk s H sc (compEnvC sc cs Cc C.env) fp) (toEs cond) (TrT C.K W0 (cnd (sem w.gl F cond)))) ∧
    (∀ (s : Shared) (H : Hp) (Cc : Addr) (cs : List (Str × Addr)) (fp : List Addr), PE (C.blk s H sc (compEnvC sc cs Cc C.env) fp) (toE elt) (TrE C.K W0 (sem w.gl F elt).e)) := by
  obtain ⟨h12345, h6⟩ := and1 h
  obtain ⟨h1234, h5⟩ := and1 h12345
  obtain ⟨h1, h2, h3, h4⟩ := and4 h1234
  have ok : L2.BlkOk C.N C.env.scope sc own := by rw [g.N, g.sc]; exact L2.blkOk_by h2
  have gb := fun s H Cc cs fp => g.blk ok.kind s H Cc cs fp
  refine ⟨?_, ok, h3, fun s H Cc cs fp => iht.g _ _ _ (gb s H Cc cs fp) h4, fun s H Cc cs fp => ihc.q _ _ _ (gb s H Cc cs fp) h5, fun s H Cc cs fp => ihe.e _ _ _ (gb s H Cc cs fp) h6⟩
  rcases (Bool.or_eq_true _ _).mp h1 with q | q
  · exact ihi.i c C E g q _
  · obtain ⟨q1, q2⟩ := and1 q
    cases tg with
    | tup a k p => exact ihi.iT c C E g q2 _ _ _
    | _ => cases q1
theorem ok_cp {elt tg it cond : T} (m : Bool) (sc : Scope) (own : List (Str × Nat)) (p : Pos) (ihe : Ok cl w F elt) (iht : Ok cl w F tg) (ihi : Ok cl w F it) (ihc : Ok cl w F cond) : Ok cl w F (.cp m elt tg it cond sc own p) := by
  have he : ∀ c C E, Gd cl w F c C E → (wf w (.cp m elt tg it cond sc own p) c).e = true → PE C (toE (.cp m elt tg it cond sc own p)) (TrE C.K (WE cl E) (sem w.gl F (.cp m elt tg it cond sc own p)).e) := fun c C E g h => by
    obtain ⟨h1, h2, h3, h4, h5, h6⟩ := cp_parts g h ihe iht ihi ihc
    exact xCp (m := m) g.calm (by rw [g.N]; exact g.nd) h1 h2 h3 h4 h5 h6 (foldNo it C.env)
  exact .ofE he fun c C E g h => tVal (he c C E g h) fun _ => rfl
theorem ok_dcp {kx vx tg it cond : T} (sc : Scope) (own : List (Str × Nat)) (p : Pos) (ihk : Ok cl w F kx) (ihe : Ok cl w F vx) (iht : Ok cl w F tg) (ihi : Ok cl w F it) (ihc : Ok cl w F cond) : Ok cl w F (.dcp kx vx tg it cond sc own p) := by
  refine .ofE (fun c C E g h => ?_) fun c C E g h => by cases h
  obtain ⟨h0, hk⟩ := and1 h
  obtain ⟨h1, h2, h3, h4, h5, h6⟩ := cp_parts g h0 ihe iht ihi ihc
  exact xDc g.calm (by rw [g.N]; exact g.nd) h1 h2 h3 h4 h5 (fun s H Cc cs fp => ihk.e _ _ _ (g.blk h2.kind s H Cc cs fp) hk) h6 (foldNo it C.env)
theorem it_pi {tg it : T} {c : Ct} {C : Cx} {E : XK} (g : Gd cl w F c C E) (h : ((wf w it c).i || (isTupT tg && (wf w it c).iT)) = true) (ihi : Ok cl w F it) : PI C (toE tg) (toE it) (TrI C.K (WE cl E) (sem w.gl F it).i) := by
  rcases (Bool.or_eq_true _ _).mp h with q | q
  · exact ihi.i c C E g q _
  · obtain ⟨q1, q2⟩ := and1 q
    cases tg with
    | tup a k p => exact ihi.iT c C E g q2 _ _ _
    | _ => cases q1
/-- the parts of a second clause -/
theorem cp2_parts {tg1 it1 cond1 : T} {sc : Scope} {own : List (Str × Nat)} {own1 : List Nat} {c : Ct} {C : Cx} {E : XK} (g : Gd cl w F c C E) (kd : sc.kind = .function)
    (h : (((wf w it1 (c.blk sc)).i || (isTupT tg1 && (wf w it1 (c.blk sc)).iT)) && nmT own1 tg1 && (own1.all fun i => (own.map (·.2)).contains i) && (wf w tg1 (c.blk sc)).g && (wf w cond1 (c.blk sc)).q) = true)
    (iht : Ok cl w F tg1) (ihi : Ok cl w F it1) (ihc : Ok cl w F cond1) : nmT own1 tg1 = true ∧ (∀ i ∈ own1, i ∈ own.map (·.2)) ∧
    (∀ (s : Shared) (H : Hp) (Cc : Addr) (cs : List (Str × Addr)) (fp : List Addr), PI (C.blk s H sc (compEnvC sc cs Cc C.env) fp) (toE tg1) (toE it1) (TrI C.K W0 (sem w.gl F it1).i)) ∧
    (∀ (s : Shared) (H : Hp) (Cc : Addr) (cs : List (Str × Addr)) (fp : List Addr), PG (C.blk s H sc (compEnvC sc cs Cc C.env) fp) (toE tg1) (gE C.K tg1)) ∧
    (∀ (s : Shared) (H : Hp) (Cc : Addr) (cs : List (Str × Addr)) (fp : List Addr), L2.PTs (C.blk s H sc (compEnvC sc cs Cc C.env) fp) (toEs cond1) (TrT C.K W0 (cnd (sem w.gl F cond1)))) := by
  obtain ⟨h1234, h5⟩ := and1 h
  obtain ⟨h1, h2, h3, h4⟩ := and4 h1234
  have gb := fun s H Cc cs fp => g.blk kd s H Cc cs fp
  refine ⟨h2, fun i hi => ?_, fun s H Cc cs fp => it_pi (gb s H Cc cs fp) h1 ihi, fun s H Cc cs fp => iht.g _ _ _ (gb s H Cc cs fp) h4, fun s H Cc cs fp => ihc.q _ _ _ (gb s H Cc cs fp) h5⟩
  have := List.all_eq_true.mp h3 i hi
  simpa using this
theorem ok_cp2 {elt tg it cond tg1 it1 cond1 : T} (m : Bool) (sc : Scope) (own : List (Str × Nat)) (own1 : List Nat) (p : Pos) (ihe : Ok cl w F elt) (iht : Ok cl w F tg) (ihi : Ok cl w F it) (ihc : Ok cl w F cond) (iht1 : Ok cl w F tg1) (ihi1 : Ok cl w F it1) (ihc1 : Ok cl w F cond1) : Ok cl w F (.cp2 m elt tg it cond tg1 it1 cond1 sc own own1 p) := by
  have he : ∀ c C E, Gd cl w F c C E → (wf w (.cp2 m elt tg it cond tg1 it1 cond1 sc own own1 p) c).e = true → PE C (toE (.cp2 m elt tg it cond tg1 it1 cond1 sc own own1 p)) (TrE C.K (WE cl E) (sem w.gl F (.cp2 m elt tg it cond tg1 it1 cond1 sc own own1 p)).e) := fun c C E g h => by
    obtain ⟨ha, hb⟩ := and1 h
    obtain ⟨h1, h2, h3, h4, h5, h6⟩ := cp_parts g ha ihe iht ihi ihc
    obtain ⟨k1, k2, k3, k4, k5⟩ := cp2_parts g h2.kind hb iht1 ihi1 ihc1
    exact xCp2 (m := m) g.calm (by rw [g.N]; exact g.nd) h1 h2 h3 k1 k2 h4 h5 k3 k4 k5 h6 (foldNo it C.env) fun env => foldNo it1 env
  exact .ofE he fun c C E g h => tVal (he c C E g h) fun _ => rfl
theorem ok_dcp2 {kx vx tg it cond tg1 it1 cond1 : T} (sc : Scope) (own : List (Str × Nat)) (own1 : List Nat) (p : Pos) (ihk : Ok cl w F kx) (ihe : Ok cl w F vx) (iht : Ok cl w F tg) (ihi : Ok cl w F it) (ihc : Ok cl w F cond) (iht1 : Ok cl w F tg1) (ihi1 : Ok cl w F it1) (ihc1 : Ok cl w F cond1) : Ok cl w F (.dcp2 kx vx tg it cond tg1 it1 cond1 sc own own1 p) := by
  refine .ofE (fun c C E g h => ?_) fun c C E g h => by cases h
  obtain ⟨h0, hk⟩ := and1 h
  obtain ⟨ha, hb⟩ := and1 h0
  obtain ⟨h1, h2, h3, h4, h5, h6⟩ := cp_parts g ha ihe iht ihi ihc
  obtain ⟨k1, k2, k3, k4, k5⟩ := cp2_parts g h2.kind hb iht1 ihi1 ihc1
  exact xDc2 g.calm (by rw [g.N]; exact g.nd) h1 h2 h3 k1 k2 (fun s H Cc cs fp => ⟨⟨h4 s H Cc cs fp, h5 s H Cc cs fp⟩, k3 s H Cc cs fp, ⟨k4 s H Cc cs fp, k5 s H Cc cs fp⟩, ihk.e _ _ _ (g.blk h2.kind s H Cc cs fp) hk, h6 s H Cc cs fp⟩) (foldNo it C.env) fun env => foldNo it1 env
theorem ok_ldk {a : T} (p0 p : Pos) (iha : Ok cl w F a) : Ok cl w F (.ldk a p0 p) := by
  refine .ofE (fun c C E g h => ?_) fun c C E g h => by cases h
  obtain ⟨h1, h2, h3⟩ := and3 h
  obtain ⟨x, rfl⟩ := args1_ex h3
  exact xLdk g.calm (g.glb h1).1 (g.bn _ (by simp [bnames])) (iha.a c C E g h2)
end
end Mi
end
section
set_option Elab.async false
set_option linter.all false
set_option maxRecDepth 100000
set_option maxHeartbeats 2000000
/-! M20b: trees of errors, of texts told. -/
namespace Mi
open PySem
open L2 (V HO Hp upd upd_same upd_ne SqL SqT Rd Cx Inv PE PT PA PS PSs PG PGs PI TE TT TA TS TG TGs TI It VK XK Ends RelV Vals ne_of_none OpR R2 EP CallR UnR IxR SlR TruR Gl Vis Loc Itl Itt Itr wipe Room)
section
variable {cl : Str → Value} {w : Wd} {F : Nat → List Vl → Sr → R Vl}
theorem ok_isx {a : T} (D : Str) (p0 p1 p : Pos) (iha : Ok cl w F a) : Ok cl w F (.isx a D p0 p1 p) := by
  have he : ∀ c C E, Gd cl w F c C E → (wf w (.isx a D p0 p1 p) c).e = true → PE C (toE (.isx a D p0 p1 p)) (TrE C.K (WE cl E) (sem w.gl F (.isx a D p0 p1 p)).e) := fun c C E g h => by
    obtain ⟨h1, h2, h3, h4⟩ := and4 h
    obtain ⟨g1, g2, g3⟩ := g.glb h3
    rcases (Bool.or_eq_true _ _).mp h1 with q | q
    · obtain ⟨Ca, CEa, fI, fd, G, m, _, _, _⟩ := g.er D (of_decide_eq_true q)
      exact xIsx (.own ⟨_, _, G⟩) (g.glb h2).1 (g.bn _ (by simp [bnames])) (L2.pe_glob g1 m rfl g2) (iha.e c C E g h4)
    · obtain rfl := beq_iff_eq.mp q
      exact xIsx .ve (g.glb h2).1 (g.bn _ (by simp [bnames])) (L2.pe_bltn g1 (g.bn _ (by simp [bnames])) (v := .ty "ValueError") (u := .type "ValueError") PyProof.Rows.Boot.«ValueError» rfl g3 g2) (iha.e c C E g h4)
  exact .ofE he fun c C E g h => tVal (he c C E g h) fun _ => rfl
theorem ok_vlu {a : T} (p : Pos) (iha : Ok cl w F a) : Ok cl w F (.vlu a p) :=
  .ofE (fun c C E g h => xVlu (base_at (and1 h).2) (iha.e c C E g (and1 h).1)) fun c C E g h => by cases h
theorem ok_mkx {a : T} (x : Str) (p0 p : Pos) (iha : Ok cl w F a) : Ok cl w F (.mkx x a p0 p) :=
  .ofE (fun c C E g h => by
    obtain ⟨h1, h2, h3⟩ := and3 h
    obtain ⟨g1, g2, g3⟩ := g.glb h2
    obtain ⟨Ca, CEa, fI, fd, G, m, _, hb, hf⟩ := g.er x (of_decide_eq_true h1)
    obtain ⟨k, hr, hk, _⟩ := g.lv
    exact xMkx (k := 1) G (hf C.w C.base 0) (hr.mono (by omega)) hb g1 m g2 (iha.e c C E g h3)) fun c C E g h => by cases h
theorem ok_shr {a : T} (p0 p : Pos) (iha : Ok cl w F a) : Ok cl w F (.shr a p0 p) :=
  .ofE (fun c C E g h => xShw g.gu g.un (g.glb (and1 h).1).1 (g.bn _ (by simp [bnames])) (iha.e c C E g (and1 h).2)) fun c C E g h => by cases h
theorem ok_dv0 (p : Pos) : Ok cl w F (.dv0 p) := .ofE (fun c C E g h => xDv0) fun c C E g h => by cases h
theorem ok_dvc (k : Const) (kk : Nat) (kp : Pos) (v : Const) (vk : Nat) (vp p : Pos) : Ok cl w F (.dvc k kk kp v vk vp p) := .ofE (fun c C E g h => by
    obtain ⟨x, e1⟩ := Option.isSome_iff_exists.mp (and1 h).1
    obtain ⟨y, e2⟩ := Option.isSome_iff_exists.mp (and1 h).2
    exact xDvc (xC e1) (xC e2)) fun c C E g h => by cases h
theorem ok_rax {a : T} (x : Str) (p0 p1 p : Pos) (iha : Ok cl w F a) : Ok cl w F (.rax x a p0 p1 p) :=
  .ofS fun c C E g hp h => by
    obtain ⟨h1, h2, h3⟩ := and3 h
    obtain ⟨g1, g2, g3⟩ := g.glb h2
    obtain ⟨Ca, CEa, fI, fd, G, m, ec, hb, hf⟩ := g.er x (of_decide_eq_true h1)
    obtain ⟨k, hr, hk, _⟩ := g.lv
    exact sRax (k := 1) g.calm g.tk ec G (hf C.w C.base 0) (hr.mono (by omega)) hb g1 m g2 (iha.e c C E g h3)
end
end Mi
end
section
set_option Elab.async false
set_option linter.all false
set_option maxRecDepth 100000
set_option maxHeartbeats 2000000
/-! M21: iterators, lists, statements; all trees. -/
namespace Mi
open PySem
open L2 (V HO Hp upd upd_same upd_ne SqL SqT Rd Cx Inv PE PT PA PS PSs PG PGs PI TE TT TA TS TG TGs TI It VK XK Ends RelV Vals ne_of_none OpR R2 EP CallR UnR IxR SlR TruR Gl Vis Loc Itl Itt Itr wipe Room)
section
variable {cl : Str → Value} {w : Wd} {F : Nat → List Vl → Sr → R Vl}
/-- what the shapes leave out -/
structure Off (w : Wd) (u : T) : Prop where
  e : ∀ c, (wf w u c).e = false := by intro _; rfl
  t : ∀ c, (wf w u c).t = false := by intro _; rfl
  a : ∀ c, (wf w u c).a = false := by intro _; rfl
  i : ∀ c, (wf w u c).i = false := by intro _; rfl
  iT : ∀ c, (wf w u c).iT = false := by intro _; rfl
  s : ∀ c, (wf w u c).s = false := by intro _; rfl
  ss : ∀ c, (wf w u c).ss = false := by intro _; rfl
  k : ∀ c, (wf w u c).k = false := by intro _; rfl
  ks : ∀ c, (wf w u c).ks = false := by intro _; rfl
theorem ff {b : Bool} {p : Prop} (h : b = false) (q : b = true) : p := by rw [h] at q; cases q
theorem ok_pl {x : T} (ih : Ok cl w F x) : Ok cl w F (.pl x) where
  e := fun c C E g h => ih.e c C E g h
  t := fun c C E g h => ih.t c C E g h
  a := fun c C E g h => ff rfl h
  i := fun c C E g h tg => iPlain (ih.e c C E g h)
  iT := fun c C E g h => ff rfl h
  s := fun c C E g _ h => ff rfl h
  ss := fun c C E g _ h => ff rfl h
  k := fun c C E g h => ff rfl h
  ks := fun c C E g h => ff rfl h
  b := fun c C E g h => ff rfl h
  bt := fun c C E g h => ff rfl h
  g := fun c C E g h => ff rfl h
  gs := fun c C E g h => ff rfl h
  o := fun c C E g h => oSome (fun _ _ => rfl) (ih.e c C E g h)
  q := fun c C E g h => ff rfl h
theorem args2_ex {a : T} (h : args2 a = true) : ∃ x y, a = .cons x (.cons y .nil) := by
  unfold args2 at h
  split at h
  · exact ⟨_, _, rfl⟩
  · cases h
theorem args3_ex {a : T} (h : args3 a = true) : ∃ x y z, a = .cons x (.cons y (.cons z .nil)) := by
  unfold args3 at h
  split at h
  · exact ⟨_, _, _, rfl⟩
  · cases h
theorem ok_it {u : T} (hi : ∀ c C E, Gd cl w F c C E → (wf w u c).i = true → ∀ tg, PI C tg (toE u) (TrI C.K (WE cl E) (sem w.gl F u).i))
    (hT : ∀ c C E, Gd cl w F c C E → (wf w u c).iT = true → ∀ elts kk tpos, PI C (.Tuple elts kk tpos) (toE u) (TrI C.K (WE cl E) (sem w.gl F u).i))
    (n : ∀ c, (wf w u c).e = false ∧ (wf w u c).t = false ∧ (wf w u c).a = false ∧ (wf w u c).s = false ∧ (wf w u c).ss = false ∧ (wf w u c).k = false ∧ (wf w u c).ks = false ∧ (wf w u c).b = false ∧ (wf w u c).bt = false ∧ (wf w u c).g = false ∧ (wf w u c).gs = false ∧ (wf w u c).o = false ∧ (wf w u c).q = false) : Ok cl w F u where
  e := fun c C E g h => ff (n c).1 h
  t := fun c C E g h => ff (n c).2.1 h
  a := fun c C E g h => ff (n c).2.2.1 h
  i := hi
  iT := hT
  s := fun c C E g _ h => ff (n c).2.2.2.1 h
  ss := fun c C E g _ h => ff (n c).2.2.2.2.1 h
  k := fun c C E g h => ff (n c).2.2.2.2.2.1 h
  ks := fun c C E g h => ff (n c).2.2.2.2.2.2.1 h
  b := fun c C E g h => ff (n c).2.2.2.2.2.2.2.1 h
  bt := fun c C E g h => ff (n c).2.2.2.2.2.2.2.2.1 h
  g := fun c C E g h => ff (n c).2.2.2.2.2.2.2.2.2.1 h
  gs := fun c C E g h => ff (n c).2.2.2.2.2.2.2.2.2.2.1 h
  o := fun c C E g h => ff (n c).2.2.2.2.2.2.2.2.2.2.2.1 h
  q := fun c C E g h => ff (n c).2.2.2.2.2.2.2.2.2.2.2.2 h
theorem ok_rg {a : T} (p0 p : Pos) (iha : Ok cl w F a) : Ok cl w F (.rg a p0 p) := by
  refine ok_it (fun c C E g h tg => ?_) (fun c C E g h => ff rfl h) fun c => ⟨rfl, rfl, rfl, rfl, rfl, rfl, rfl, rfl, rfl, rfl, rfl, rfl, rfl⟩
  obtain ⟨h1, h2, h3⟩ := and3 h
  have ha := iha.a c C E g h2
  rcases (Bool.or_eq_true _ _).mp h3 with h3 | q
  rotate_left
  · obtain ⟨x, y, z, rfl⟩ := args3_ex q
    exact iRg3 (g.glb h1).1 (g.bn _ (by simp [bnames])) ha fun e s xs s' hq => a_len w.gl F _ rfl e s xs s' hq
  rcases (Bool.or_eq_true _ _).mp h3 with q | q
  · obtain ⟨x, rfl⟩ := args1_ex q
    exact iRg1 (g.glb h1).1 (g.bn _ (by simp [bnames])) ha fun e s xs s' hq => a_len w.gl F _ rfl e s xs s' hq
  · obtain ⟨x, y, rfl⟩ := args2_ex q
    exact iRg2 (g.glb h1).1 (g.bn _ (by simp [bnames])) ha fun e s xs s' hq => a_len w.gl F _ rfl e s xs s' hq
theorem ok_en {a : T} (p0 p : Pos) (iha : Ok cl w F a) : Ok cl w F (.en a p0 p) := by
  refine ok_it (fun c C E g h tg => ff rfl h) (fun c C E g h elts kk tpos => ?_) fun c => ⟨rfl, rfl, rfl, rfl, rfl, rfl, rfl, rfl, rfl, rfl, rfl, rfl, rfl⟩
  obtain ⟨h1, h2, h3⟩ := and3 h
  have ha := iha.a c C E g h2
  obtain ⟨x, rfl⟩ := args1_ex h3
  exact iEnu (g.glb h1).1 (g.bn _ (by simp [bnames])) ha
theorem ok_zp {a : T} (p0 p : Pos) (iha : Ok cl w F a) : Ok cl w F (.zp a p0 p) := by
  refine ok_it (fun c C E g h tg => ff rfl h) (fun c C E g h elts kk tpos => ?_) fun c => ⟨rfl, rfl, rfl, rfl, rfl, rfl, rfl, rfl, rfl, rfl, rfl, rfl, rfl⟩
  obtain ⟨h1, h2, h3⟩ := and3 h
  have ha := iha.a c C E g h2
  obtain ⟨x, y, rfl⟩ := args2_ex h3
  exact iZip (g.glb h1).1 (g.bn _ (by simp [bnames])) ha
theorem ok_ez {a : T} (p0 p1 p2 p : Pos) (iha : Ok cl w F a) : Ok cl w F (.ez a p0 p1 p2 p) := by
  refine ok_it (fun c C E g h tg => ff rfl h) (fun c C E g h elts kk tpos => ?_) fun c => ⟨rfl, rfl, rfl, rfl, rfl, rfl, rfl, rfl, rfl, rfl, rfl, rfl, rfl⟩
  obtain ⟨h1, h2, h3, h4⟩ := and4 h
  have ha := iha.a c C E g h3
  obtain ⟨x, y, rfl⟩ := args2_ex h4
  exact iEnz (g.glb h1).1 (g.bn _ (by simp [bnames])) (g.glb h2).1 (g.bn _ (by simp [bnames])) ha
theorem ok_itm {o : T} (p0 p : Pos) (iho : Ok cl w F o) : Ok cl w F (.itm o p0 p) := by
  refine ok_it (fun c C E g h tg => ff rfl h) (fun c C E g h elts kk tpos => ?_) fun c => ⟨rfl, rfl, rfl, rfl, rfl, rfl, rfl, rfl, rfl, rfl, rfl, rfl, rfl⟩
  obtain ⟨h1, h2, h3⟩ := and3 h
  exact iItm (base_at h3) h2 (iho.e c C E g h1)
theorem ok_dwk {o : T} (iho : Ok cl w F o) : Ok cl w F (.dwk o) := by
  refine ok_it (fun c C E g h tg => iDwk (iho.e c C E g h)) (fun c C E g h elts kk tpos => ff rfl h) fun c => ⟨rfl, rfl, rfl, rfl, rfl, rfl, rfl, rfl, rfl, rfl, rfl, rfl, rfl⟩
theorem ok_dvl {o : T} (p0 p : Pos) (iho : Ok cl w F o) : Ok cl w F (.dvl o p0 p) := by
  refine ok_it (fun c C E g h tg => ?_) (fun c C E g h elts kk tpos => ff rfl h) fun c => ⟨rfl, rfl, rfl, rfl, rfl, rfl, rfl, rfl, rfl, rfl, rfl, rfl, rfl⟩
  obtain ⟨h1, h2, h3⟩ := and3 h
  exact xDvl (base_at h3) h2 (iho.e c C E g h1)
/-! lists of trees -/
theorem ok_nil : Ok cl w F .nil where
  e := fun c C E g h => ff rfl h
  t := fun c C E g h => ff rfl h
  a := fun c C E g h => aNil
  i := fun c C E g h => ff rfl h
  iT := fun c C E g h => ff rfl h
  s := fun c C E g _ h => ff rfl h
  ss := fun c C E g _ h => sNil
  k := fun c C E g h => ff rfl h
  ks := fun c C E g h => gsNil
  b := fun c C E g h => ff rfl h
  bt := fun c C E g h => ff rfl h
  g := fun c C E g h => ff rfl h
  gs := fun c C E g h => L2.pgs_nil
  o := fun c C E g h => oNone fun _ _ => rfl
  q := fun c C E g h => ⟨fun pins s σ H Q I ⟨O, ρ, e, st, R, q⟩ => L2.pts_nil.run pins s σ H Q I (q.at R.S rfl)⟩
theorem isNil_eq {b : T} (h : isNil b = true) : b = .nil := by cases b <;> first | rfl | cases h
theorem bNil (gl : List P) (F : Nat → List Vl → Sr → R Vl) (a : T) : (sem gl F (.cons a .nil)).bo = fun _ e s => (sem gl F a).e e s := by
  funext k e s
  rfl
/-- more than one -/
def more : T → Bool
  | .cons _ _ => true
  | _ => false
theorem bCons (gl : List P) (F : Nat → List Vl → Sr → R Vl) (a x y : T) : (sem gl F (.cons a (.cons x y))).bo = fun k e s => orP ((sem gl F a).e e s) (fun s => (sem gl F (.cons x y)).bo k e s) k := by
  funext k e s
  rfl
theorem b_more {b : T} {c : Ct} (h : (wf w b c).b = true) : ∃ x y, b = .cons x y := by
  cases b <;> first | exact ⟨_, _, rfl⟩ | cases h
theorem bt_more {b : T} {c : Ct} (h : (wf w b c).bt = true) : ∃ x y, b = .cons x y := by
  cases b <;> first | exact ⟨_, _, rfl⟩ | cases h
theorem ok_cons {a b : T} (iha : Ok cl w F a) (ihb : Ok cl w F b) : Ok cl w F (.cons a b) where
  e := fun c C E g h => ff rfl h
  t := fun c C E g h => ff rfl h
  a := fun c C E g h => aCns (iha.e c C E g (and1 h).1) (ihb.a c C E g (and1 h).2) (star_cons _ _ _)
  i := fun c C E g h => ff rfl h
  iT := fun c C E g h => ff rfl h
  s := fun c C E g _ h => ff rfl h
  ss := fun c C E g hp h => sCons (iha.s c C E g hp (and1 h).1) (ihb.ss c C E g hp (and1 h).2)
  k := fun c C E g h => ff rfl h
  ks := fun c C E g h => gsCons (iha.k c C E g (and1 h).1) (ihb.ks c C E g (and1 h).2) (by rw [asgCons]; rfl)
  b := fun c C E g h op pos => by
    obtain ⟨h1, h2⟩ := and1 h
    rcases (Bool.or_eq_true _ _).mp h2 with q | q
    · cases isNil_eq q
      rw [bNil]
      exact xOne (iha.e c C E g h1)
    · obtain ⟨x, y, rfl⟩ := b_more q
      rw [bCons]
      cases op with
      | Or => exact xOr (iha.e c C E g h1) (ihb.b c C E g q .Or pos)
      | And => exact xAnd (iha.e c C E g h1) (ihb.b c C E g q .And pos)
  bt := fun c C E g h op pos => by
    obtain ⟨h1, h2⟩ := and1 h
    rcases (Bool.or_eq_true _ _).mp h2 with q | q
    · cases isNil_eq q
      rw [bNil]
      exact wOne (iha.t c C E g h1)
    · obtain ⟨x, y, rfl⟩ := bt_more q
      rw [bCons]
      cases op with
      | Or => exact wOr (iha.t c C E g h1) (ihb.bt c C E g q .Or pos)
      | And => exact wAnd (iha.t c C E g h1) (ihb.bt c C E g q .And pos)
  g := fun c C E g h => ff rfl h
  gs := fun c C E g h => L2.pgs_cons (iha.g c C E g (and1 h).1) (ihb.gs c C E g (and1 h).2) (by rw [asgCons]; rfl)
  o := fun c C E g h => ff rfl h
  q := fun c C E g h => by
    obtain ⟨h1, h2⟩ := and1 h
    cases isNil_eq h2
    exact ⟨fun pins s σ H Q I q => (L2.pts_one (iha.t c C E g h1)).run pins s σ H Q I q⟩
theorem ok_star {a b : T} (p : Pos) (iha : Ok cl w F a) (ihb : Ok cl w F b) : Ok cl w F (.star a b p) where
  e := fun c C E g h => ff rfl h
  t := fun c C E g h => ff rfl h
  a := fun c C E g h => aStr (iha.e c C E g (and1 h).1) (ihb.a c C E g (and1 h).2)
  i := fun c C E g h => ff rfl h
  iT := fun c C E g h => ff rfl h
  s := fun c C E g _ h => ff rfl h
  ss := fun c C E g _ h => ff rfl h
  k := fun c C E g h => ff rfl h
  ks := fun c C E g h => ff rfl h
  b := fun c C E g h => ff rfl h
  bt := fun c C E g h => ff rfl h
  g := fun c C E g h => ff rfl h
  gs := fun c C E g h => ff rfl h
  o := fun c C E g h => ff rfl h
  q := fun c C E g h => ff rfl h
/-! statements -/
theorem asg1 (t : T) (env : Env) : (assignEach [toE t] env).map (·.2) = [assign (toE t) env] := by rw [asgCons]; rfl
/-- the parts of what may be stored as it is made -/
def Sub (cl : Str → Value) (w : Wd) (F : Nat → List Vl → Sr → R Vl) : T → Prop
  | .cp _ elt tg it cond _ _ _ => Ok cl w F elt ∧ Ok cl w F tg ∧ Ok cl w F it ∧ Ok cl w F cond
  | .dcp kx vx tg it cond _ _ _ => Ok cl w F kx ∧ Ok cl w F vx ∧ Ok cl w F tg ∧ Ok cl w F it ∧ Ok cl w F cond
  | .cp2 _ elt tg it cond tg1 it1 cond1 _ _ _ _ => (Ok cl w F elt ∧ Ok cl w F tg ∧ Ok cl w F it ∧ Ok cl w F cond) ∧ Ok cl w F tg1 ∧ Ok cl w F it1 ∧ Ok cl w F cond1
  | .dcp2 kx vx tg it cond tg1 it1 cond1 _ _ _ _ => (Ok cl w F kx ∧ Ok cl w F vx ∧ Ok cl w F tg ∧ Ok cl w F it ∧ Ok cl w F cond) ∧ Ok cl w F tg1 ∧ Ok cl w F it1 ∧ Ok cl w F cond1
  | _ => True
theorem ok_as {t x : T} (p : Pos) (iht : Ok cl w F t) (ihx : Ok cl w F x) (hcp : Sub cl w F x) : Ok cl w F (.as t x p) := by
  refine .ofS fun c C E g hp h => ?_
  obtain ⟨h1, h2⟩ := and1 h
  by_cases hc : (isCp0 x && isVar t) = true
  · rw [if_pos hc] at h2
    obtain ⟨c1, c2⟩ := and1 hc
    cases t with
    | v i y py =>
      by_cases hs : swapB c (.v i y py) x = true
      · cases x with
        | cp m elt tg it cond sc own p' =>
          obtain ⟨o1, o2, o3, o4⟩ : Ok cl w F elt ∧ Ok cl w F tg ∧ Ok cl w F it ∧ Ok cl w F cond := hcp
          obtain ⟨q1, q2, q3, q4, q5, q6⟩ := cp_parts g h1 o1 o2 o3 o4
          obtain ⟨l1, l2, l3, l4⟩ := g.loc h2
          have hs' : (c.sc.names.lookup y == some .local && py.line == p'.line && !(sc.names.any fun (n, k) => n == y && (k == .local || k == .cell))) = true := hs
          obtain ⟨s1, s2, s3⟩ := and3 hs'
          have hl : C.env.scope.names.lookup y = some .local := by rw [g.sc]; exact beq_iff_eq.mp s1
          refine sLc (m := m) g.calm l1 l2 hl ?_ q1 q2 q3 q4 q5 q6 (foldNo it C.env)
          exact L2.sw_true (by rw [g.sc]; exact g.kd) hl s2 (by simpa using s3)
        | cp2 m elt tg it cond tg1 it1 cond1 sc own own1 p' =>
          obtain ⟨⟨o1, o2, o3, o4⟩, o5, o6, o7⟩ : (Ok cl w F elt ∧ Ok cl w F tg ∧ Ok cl w F it ∧ Ok cl w F cond) ∧ Ok cl w F tg1 ∧ Ok cl w F it1 ∧ Ok cl w F cond1 := hcp
          obtain ⟨ha, hb⟩ := and1 h1
          obtain ⟨q1, q2, q3, q4, q5, q6⟩ := cp_parts g ha o1 o2 o3 o4
          obtain ⟨r1, r2, r3, r4, r5⟩ := cp2_parts g q2.kind hb o5 o6 o7
          obtain ⟨l1, l2, l3, l4⟩ := g.loc h2
          have hs' : (c.sc.names.lookup y == some .local && py.line == p'.line && !(sc.names.any fun (n, k) => n == y && (k == .local || k == .cell))) = true := hs
          obtain ⟨s1, s2, s3⟩ := and3 hs'
          have hl : C.env.scope.names.lookup y = some .local := by rw [g.sc]; exact beq_iff_eq.mp s1
          refine sLc2 (m := m) g.calm l1 l2 hl ?_ q1 q2 q3 r1 r2 q4 q5 r3 r4 r5 q6 (foldNo it C.env) fun env => foldNo it1 env
          exact L2.sw_true (by rw [g.sc]; exact g.kd) hl s2 (by simpa using s3)
        | _ => cases hs
      · have hsw : swapsWith (toE x) (some (.Name y py)) p.line C.env = pure false := by
          have key : ∀ x : T, isCp0 x = true → swapB c (.v i y py) x ≠ true → swapsWith (toE x) (some (.Name y py)) p.line C.env = pure false := by
            intro x
            cases x with
            | cp m elt tg it cond sc own p' =>
              intro _ hb
              have hb' : ¬ (c.sc.names.lookup y == some .local && py.line == p'.line && !(sc.names.any fun (n, k) => n == y && (k == .local || k == .cell))) = true := hb
              have bk : (C.env.blockKind == .function) = true := by unfold Env.blockKind; rw [g.sc, g.kd]; rfl
              have kk : C.env.kindOf y = c.sc.names.lookup y := by show C.env.scope.names.lookup y = _; rw [g.sc]
              show (pure (C.env.blockKind == .function && C.env.kindOf y == some .local && py.line == p'.line && !(sc.names.any fun (n, k) => n == y && (k == .local || k == .cell))) : Sem Bool) = pure false
              rw [bk, kk, Bool.true_and]
              rw [Bool.not_eq_true] at hb'
              rw [hb']
            | cp2 m elt tg it cond tg1 it1 cond1 sc own own1 p' =>
              intro _ hb
              have hb' : ¬ (c.sc.names.lookup y == some .local && py.line == p'.line && !(sc.names.any fun (n, k) => n == y && (k == .local || k == .cell))) = true := hb
              have bk : (C.env.blockKind == .function) = true := by unfold Env.blockKind; rw [g.sc, g.kd]; rfl
              have kk : C.env.kindOf y = c.sc.names.lookup y := by show C.env.scope.names.lookup y = _; rw [g.sc]
              show (pure (C.env.blockKind == .function && C.env.kindOf y == some .local && py.line == p'.line && !(sc.names.any fun (n, k) => n == y && (k == .local || k == .cell))) : Sem Bool) = pure false
              rw [bk, kk, Bool.true_and]
              rw [Bool.not_eq_true] at hb'
              rw [hb']
            | _ => intro h; cases h
          exact key x c1 hs
        exact sAsg (ihx.e c C E g h1) (iht.k c C E g h2) hsw (by cases x <;> first | rfl | cases c1) (asg1 _ _) fun v e s e' s' => ⟨(only_k w.gl F (.v i y py)).1 v e s |>.1 e' s' |>.1, (only_k w.gl F (.v i y py)).1 v e s |>.1 e' s' |>.2, fun ww => (only_k w.gl F (.v i y py)).1 v e s |>.2 ww s'⟩
    | _ => cases c2
  · rw [if_neg hc] at h2
    obtain ⟨k1, k2, k3⟩ := and3 h2
    have k2' : isCp x = false := by simpa using k2
    exact sAsg (ihx.e c C E g h1) (iht.k c C E g k1) (swFalse x k2' _ _ _) (swSts t x k3 _) (asg1 _ _) fun v e s e' s' => ⟨(only_k w.gl F t).1 v e s |>.1 e' s' |>.1, (only_k w.gl F t).1 v e s |>.1 e' s' |>.2, fun ww => (only_k w.gl F t).1 v e s |>.2 ww s'⟩
theorem vars2_ex {c : Ct} {t : T} (h : vars2 c t = true) : ∃ i x px j y py, t = .cons (.v i x px) (.cons (.v j y py) .nil) ∧ c.N[i]? = some x ∧ c.N[j]? = some y ∧ i ≠ j ∧ c.sc.names.lookup x = some .local ∧ c.sc.names.lookup y = some .local := by
  unfold vars2 at h
  split at h
  · simp only [Bool.and_eq_true, decide_eq_true_eq, beq_iff_eq] at h
    obtain ⟨⟨⟨⟨e1, e2⟩, e3⟩, e4⟩, e5⟩ := h
    exact ⟨_, _, _, _, _, _, rfl, e1, e2, e3, e4, e5⟩
  · cases h
theorem vars3_ex {c : Ct} {t : T} (h : vars3 c t = true) : ∃ i x px j y py l z pz, t = .cons (.v i x px) (.cons (.v j y py) (.cons (.v l z pz) .nil)) ∧ c.N[i]? = some x ∧ c.N[j]? = some y ∧ c.N[l]? = some z ∧ i ≠ j ∧ i ≠ l ∧ j ≠ l ∧ c.sc.names.lookup x = some .local ∧ c.sc.names.lookup y = some .local ∧ c.sc.names.lookup z = some .local := by
  unfold vars3 at h
  split at h
  · simp only [Bool.and_eq_true, decide_eq_true_eq, beq_iff_eq] at h
    obtain ⟨⟨⟨⟨⟨⟨⟨⟨e1, e2⟩, e3⟩, e4⟩, e5⟩, e6⟩, e7⟩, e8⟩, e9⟩ := h
    exact ⟨_, _, _, _, _, _, _, _, _, rfl, e1, e2, e3, e4, e5, e6, e7, e8, e9⟩
  · cases h
theorem len_fm {α β : Type} (f : α → Option β) : ∀ (l : List α), (l.filterMap f).length = l.length → ∀ a ∈ l, (f a).isSome = true
  | [], _, a, h => by cases h
  | x :: l, e, a, h => by
    have le := List.length_filterMap_le f l
    rw [List.filterMap_cons] at e
    cases q : f x with
    | none => rw [q] at e; simp at e; omega
    | some b =>
      rw [q] at e
      rcases List.mem_cons.mp h with rfl | h
      · rw [q]; rfl
      · exact len_fm f l (by simpa using e) a h
theorem swSome_len {sc : Scope} {ts vs : List Expr} (h : swSome sc ts vs = true) : (swNames sc ts).length = ts.length := by
  unfold swSome at h
  simp only [Bool.and_eq_true, Bool.not_eq_true', Bool.or_eq_false_iff, bne_eq_false_iff_eq] at h
  exact h.1.1.2.1
theorem sw_nm2 {sc : Scope} {x y : Str} {px py : Pos} (h : (swNames sc [.Name x px, .Name y py]).length = 2) : swNames sc [.Name x px, .Name y py] = [x, y] := by
  have h1 := len_fm _ _ h (.Name x px) (by simp)
  have h2 := len_fm _ _ h (.Name y py) (by simp)
  dsimp only at h1 h2
  unfold swNames
  split at h1
  · rename_i c1
    split at h2
    · rename_i c2
      rw [List.filterMap_cons, List.filterMap_cons]
      simp only [if_pos c1, if_pos c2]
      rfl
    · cases h2
  · cases h1
theorem sw_nm3 {sc : Scope} {x y z : Str} {px py pz : Pos} (h : (swNames sc [.Name x px, .Name y py, .Name z pz]).length = 3) : swNames sc [.Name x px, .Name y py, .Name z pz] = [x, y, z] := by
  have h1 := len_fm _ _ h (.Name x px) (by simp)
  have h2 := len_fm _ _ h (.Name y py) (by simp)
  have h3 := len_fm _ _ h (.Name z pz) (by simp)
  dsimp only at h1 h2 h3
  unfold swNames
  split at h1
  · rename_i c1
    split at h2
    · rename_i c2
      split at h3
      · rename_i c3
        rw [List.filterMap_cons, List.filterMap_cons, List.filterMap_cons]
        simp only [if_pos c1, if_pos c2, if_pos c3]
        rfl
      · cases h3
    · cases h2
  · cases h1
theorem cnt3_ex {t : T} (h : cnt t = 3) (hn : ns t = true) : ∃ x y z, t = .cons x (.cons y (.cons z .nil)) := by
  cases t with
  | cons x r =>
    cases r with
    | cons y r =>
      cases r with
      | cons z r =>
        cases r with
        | nil => exact ⟨x, y, z, rfl⟩
        | cons a b => simp [cnt] at h
        | _ => cases hn
      | nil => simp [cnt] at h
      | _ => cases hn
    | nil => simp [cnt] at h
    | _ => cases hn
  | nil => simp [cnt] at h
  | _ => cases hn
theorem ok_pa {ts es : T} (k1 k2 : Nat) (p1 p2 p : Pos) (iht : Ok cl w F ts) (ihe : Ok cl w F es) : Ok cl w F (.pa ts es k1 k2 p1 p2 p) := by
  refine .ofS fun c C E g hp h => ?_
  obtain ⟨h1, h2⟩ := and1 h
  have kd : C.env.scope.kind = .function := by rw [g.sc]; exact g.kd
  have ha := ihe.a c C E g h1
  have N : C.N.Nodup := by rw [g.N]; exact g.nd
  rcases (Bool.or_eq_true _ _).mp h2 with q | q
  · obtain ⟨q12345, q6⟩ := and1 q
    obtain ⟨q1234, q5⟩ := and1 q12345
    obtain ⟨q1, q2, q3, q4⟩ := and4 q1234
    obtain ⟨n1, n2⟩ := asgEs C.env ts q3
    have e := of_decide_eq_true q5
    exact sPaG g.calm ha (iht.ks c C E g q2) n1 n2 (sw_none kd (by rw [g.sc]; exact q1)) (fun e' s xs s' hq => by rw [a_len w.gl F es q4 e' s xs s' hq, e]) (of_decide_eq_true q6) fun vs e s => (only_k w.gl F ts).2 vs e s
  · obtain ⟨q1, q2⟩ := and1 q
    have q1' : swSome C.env.scope (toEs ts) (toEs es) = true := by rw [g.sc]; exact q1
    have sw := sw_some (env := C.env) (k := k1) (k2 := k2) (p := p1) (p2 := p2) kd q1'
    have ln := swSome_len q1'
    rcases (Bool.or_eq_true _ _).mp q2 with q | q
    · obtain ⟨r1, r2⟩ := and1 q
      obtain ⟨x, y, rfl⟩ := args2_ex r2
      obtain ⟨i, n1, px, j, n2, py, rfl, e1, e2, e3, e4, e5⟩ := vars2_ex r1
      rw [show swNames C.env.scope (toEs (.cons (.v i n1 px) (.cons (.v j n2 py) .nil))) = [n1, n2] from sw_nm2 ln] at sw
      exact sPar2 g.calm N (by rw [g.N]; exact e1) (by rw [g.N]; exact e2) e3 (by rw [g.sc]; exact e4) (by rw [g.sc]; exact e5) ha sw
    · obtain ⟨r1, r2, r3⟩ := and3 q
      obtain ⟨x, y, z, rfl⟩ := cnt3_ex (of_decide_eq_true r2) r3
      obtain ⟨i, n1, px, j, n2, py, l, n3, pz, rfl, e1, e2, e3, e4, e5, e6, e7, e8, e9⟩ := vars3_ex r1
      rw [show swNames C.env.scope (toEs (.cons (.v i n1 px) (.cons (.v j n2 py) (.cons (.v l n3 pz) .nil)))) = [n1, n2, n3] from sw_nm3 ln] at sw
      exact sPar3 g.calm N (by rw [g.N]; exact e1) (by rw [g.N]; exact e2) (by rw [g.N]; exact e3) e4 e5 e6 (by rw [g.sc]; exact e7) (by rw [g.sc]; exact e8) (by rw [g.sc]; exact e9) ha sw
theorem ok_ag {t x : T} (o : Operator) (p : Pos) (ihx : Ok cl w F x) : Ok cl w F (.ag t o x p) := by
  refine .ofS fun c C E g hp h => ?_
  obtain ⟨h1, h2, h3⟩ := and3 h
  cases t with
  | v i y py =>
    obtain ⟨l1, l2, l3, l4⟩ := g.loc h2
    exact sAug l1 l2 l3 l4 (ihx.e c C E g h1)
  | _ => cases h3
theorem ok_agI {a b x : T} (o : Operator) (q p : Pos) (iha : Ok cl w F a) (ihb : Ok cl w F b) (ihx : Ok cl w F x) : Ok cl w F (.agI a b o x q p) :=
  .ofS fun c C E g hp h => sAgIx (iha.e c C E g (and3 h).1) (ihb.e c C E g (and3 h).2.1) (ihx.e c C E g (and3 h).2.2) (augIx b)
theorem ok_iff {d a b : T} (p : Pos) (ihd : Ok cl w F d) (iha : Ok cl w F a) (ihb : Ok cl w F b) : Ok cl w F (.iff d a b p) :=
  .ofS fun c C E g hp h => sIfS (ihd.t c C E g (and3 h).1) (iha.ss c C E g hp (and3 h).2.1) (ihb.ss c C E g hp (and3 h).2.2)
theorem ok_wh {d b : T} (p : Pos) (ihd : Ok cl w F d) (ihb : Ok cl w F b) : Ok cl w F (.wh d b p) :=
  .ofS fun c C E g hp h => sWhile hp (ihd.t c C E g (and1 h).1) (ihb.ss c C E g hp (and1 h).2)
theorem ok_fo {t it b : T} (p : Pos) (iht : Ok cl w F t) (ihi : Ok cl w F it) (ihb : Ok cl w F b) : Ok cl w F (.fo t it b p) := by
  refine .ofS fun c C E g hp h => ?_
  obtain ⟨h1, h2, h3⟩ := and3 h
  have hi : PI C (toE t) (toE it) (TrI C.K (WE cl E) (sem w.gl F it).i) := by
    rcases (Bool.or_eq_true _ _).mp h1 with q | q
    · exact ihi.i c C E g q _
    · obtain ⟨q1, q2⟩ := and1 q
      cases t with
      | tup a k p => exact ihi.iT c C E g q2 _ _ _
      | _ => cases q1
  exact sFor (T0 := .nil) hp g.calm hi (iht.k c C E g h2) (ihb.ss c C E g hp h3) (foldNo it C.env)
theorem ok_re {x : T} (p : Pos) (ihx : Ok cl w F x) : Ok cl w F (.re x p) := .ofS fun c C E g hp h => sRet (ihx.e c C E g h)
theorem ok_exs {x : T} (p : Pos) (ihx : Ok cl w F x) : Ok cl w F (.exs x p) := .ofS fun c C E g hp h => sExp (ihx.e c C E g (and1 h).1) (swFalse x (by simpa using (and1 h).2) _ _ _)
theorem ok_xs (q : Stmt) : Ok cl w F (.xs q) := .ofS fun c C E g hp h => imS L2.ps_never fun D σ H ⟨O, ρ, e, st, R, q⟩ => q.elim
theorem ok_ra (p : Pos) (x : Expr) : Ok cl w F (.ra p x) := .ofS fun c C E g hp h => imS L2.ps_never fun D σ H ⟨O, ρ, e, st, R, q⟩ => q.elim
theorem ok_dst {a b x : T} (q p : Pos) (iha : Ok cl w F a) (ihb : Ok cl w F b) (ihx : Ok cl w F x) : Ok cl w F (.dst a b x q p) :=
  .ofS fun c C E g hp h => by
    obtain ⟨h1, h2, h3, h4⟩ := and4 h
    exact sDstS g.un (iha.e c C E g h2) (ihb.e c C E g h3) (ihx.e c C E g h1) (swFalse x (by simpa using h4) _ _ _)
theorem ok_dag {a b x : T} (o : Operator) (q p : Pos) (iha : Ok cl w F a) (ihb : Ok cl w F b) (ihx : Ok cl w F x) : Ok cl w F (.dag a b o x q p) :=
  .ofS fun c C E g hp h => sDagS g.un (iha.e c C E g (and3 h).1) (ihb.e c C E g (and3 h).2.1) (ihx.e c C E g (and3 h).2.2) (augIx b)
theorem ok_das {d : T} (i : Nat) (x : Str) (px p : Pos) (ihd : Sub cl w F d) : Ok cl w F (.das i x px d p) :=
  .ofS fun c C E g hp h => by
    obtain ⟨h1, h2, h3⟩ := and3 h
    cases d with
    | dcp kx vx tg it cond sc own p' =>
      obtain ⟨o0, o1, o2, o3, o4⟩ : Ok cl w F kx ∧ Ok cl w F vx ∧ Ok cl w F tg ∧ Ok cl w F it ∧ Ok cl w F cond := ihd
      obtain ⟨h0, hk⟩ := and1 h1
      obtain ⟨q1, q2, q3, q4, q5, q6⟩ := cp_parts g h0 o1 o2 o3 o4
      obtain ⟨l1, l2, l3, l4⟩ := g.loc h2
      by_cases hs' : (c.sc.names.lookup x == some .local && px.line == p'.line && !(sc.names.any fun (n, k) => n == x && (k == .local || k == .cell))) = true
      · obtain ⟨s1, s2, s3⟩ := and3 hs'
        have hl : C.env.scope.names.lookup x = some .local := by rw [g.sc]; exact beq_iff_eq.mp s1
        exact sDc g.calm l1 l2 hl (dc_sw (by rw [g.sc]; exact g.kd) hl s2 (by simpa using s3)) q1 q2 q3 q4 q5 (fun s H Cc cs fp => o0.e _ _ _ (g.blk q2.kind s H Cc cs fp) hk) q6 (foldNo it C.env)
      · have hsw : swapsWith (toE (.dcp kx vx tg it cond sc own p')) (some (.Name x px)) p.line C.env = pure false := by
          have bk : (C.env.blockKind == .function) = true := by unfold Env.blockKind; rw [g.sc, g.kd]; rfl
          have kk : C.env.kindOf x = c.sc.names.lookup x := by show C.env.scope.names.lookup x = _; rw [g.sc]
          show (pure (C.env.blockKind == .function && C.env.kindOf x == some .local && px.line == p'.line && !(sc.names.any fun (n, k) => n == x && (k == .local || k == .cell))) : Sem Bool) = pure false
          rw [bk, kk, Bool.true_and]
          rw [Bool.not_eq_true] at hs'
          rw [hs']
        have oe := (ok_dcp (cl := cl) (w := w) (F := F) sc own p' o0 o1 o2 o3 o4).e c C E g h1
        exact sAsg oe ((ok_v (cl := cl) (w := w) (F := F) i x px).k c C E g h2) hsw rfl (asg1 (.v i x px) _) fun v e s e' s' => ⟨(only_k w.gl F (.v i x px)).1 v e s |>.1 e' s' |>.1, (only_k w.gl F (.v i x px)).1 v e s |>.1 e' s' |>.2, fun ww => (only_k w.gl F (.v i x px)).1 v e s |>.2 ww s'⟩
    | dcp2 kx vx tg it cond tg1 it1 cond1 sc own own1 p' =>
      obtain ⟨⟨o0, o1, o2, o3, o4⟩, o5, o6, o7⟩ : (Ok cl w F kx ∧ Ok cl w F vx ∧ Ok cl w F tg ∧ Ok cl w F it ∧ Ok cl w F cond) ∧ Ok cl w F tg1 ∧ Ok cl w F it1 ∧ Ok cl w F cond1 := ihd
      obtain ⟨h0, hk⟩ := and1 h1
      obtain ⟨ha, hb⟩ := and1 h0
      obtain ⟨q1, q2, q3, q4, q5, q6⟩ := cp_parts g ha o1 o2 o3 o4
      obtain ⟨r1, r2, r3, r4, r5⟩ := cp2_parts g q2.kind hb o5 o6 o7
      obtain ⟨l1, l2, l3, l4⟩ := g.loc h2
      by_cases hs' : (c.sc.names.lookup x == some .local && px.line == p'.line && !(sc.names.any fun (n, k) => n == x && (k == .local || k == .cell))) = true
      · obtain ⟨s1, s2, s3⟩ := and3 hs'
        have hl : C.env.scope.names.lookup x = some .local := by rw [g.sc]; exact beq_iff_eq.mp s1
        exact sDc2 g.calm l1 l2 hl (dc_sw (by rw [g.sc]; exact g.kd) hl s2 (by simpa using s3)) q1 q2 q3 r1 r2 (fun s H Cc cs fp => ⟨⟨q4 s H Cc cs fp, q5 s H Cc cs fp⟩, r3 s H Cc cs fp, ⟨r4 s H Cc cs fp, r5 s H Cc cs fp⟩, o0.e _ _ _ (g.blk q2.kind s H Cc cs fp) hk, q6 s H Cc cs fp⟩) (foldNo it C.env) fun env => foldNo it1 env
      · have hsw : swapsWith (toE (.dcp2 kx vx tg it cond tg1 it1 cond1 sc own own1 p')) (some (.Name x px)) p.line C.env = pure false := by
          have bk : (C.env.blockKind == .function) = true := by unfold Env.blockKind; rw [g.sc, g.kd]; rfl
          have kk : C.env.kindOf x = c.sc.names.lookup x := by show C.env.scope.names.lookup x = _; rw [g.sc]
          show (pure (C.env.blockKind == .function && C.env.kindOf x == some .local && px.line == p'.line && !(sc.names.any fun (n, k) => n == x && (k == .local || k == .cell))) : Sem Bool) = pure false
          rw [bk, kk, Bool.true_and]
          rw [Bool.not_eq_true] at hs'
          rw [hs']
        have oe := (ok_dcp2 (cl := cl) (w := w) (F := F) sc own own1 p' o0 o1 o2 o3 o4 o5 o6 o7).e c C E g h1
        exact sAsg oe ((ok_v (cl := cl) (w := w) (F := F) i x px).k c C E g h2) hsw rfl (asg1 (.v i x px) _) fun v e s e' s' => ⟨(only_k w.gl F (.v i x px)).1 v e s |>.1 e' s' |>.1, (only_k w.gl F (.v i x px)).1 v e s |>.1 e' s' |>.2, fun ww => (only_k w.gl F (.v i x px)).1 v e s |>.2 ww s'⟩
    | _ => cases h3
/-- ALL TREES -/
theorem ok (t : T) : Ok cl w F t := by
  have all : Ok cl w F t ∧ Sub cl w F t := by
    induction t with
    | c x k p => exact ⟨ok_c x k p, trivial⟩
    | v i x p => exact ⟨ok_v i x p, trivial⟩
    | g i x p => exact ⟨ok_g i x p, trivial⟩
    | tup a k p iha => exact ⟨ok_tup k p iha.1, trivial⟩
    | lst m a p iha => exact ⟨ok_lst m p iha.1, trivial⟩
    | ix a b p iha ihb => exact ⟨ok_ix p iha.1 ihb.1, trivial⟩
    | sl a lo hi p p2 iha ihl ihh => exact ⟨ok_sl p p2 iha.1 ihl.1 ihh.1, trivial⟩
    | rv a k p p1 p2 p3 iha => exact ⟨ok_rv k p p1 p2 p3 iha.1, trivial⟩
    | bin a o b p iha ihb => exact ⟨ok_bin o p iha.1 ihb.1, trivial⟩
    | neg a p iha => exact ⟨ok_neg p iha.1, trivial⟩
    | nt a p iha => exact ⟨ok_nt p iha.1, trivial⟩
    | cmp a o b p iha ihb => exact ⟨ok_cmp o p iha.1 ihb.1, trivial⟩
    | cm2 a o b q d p iha ihb ihd => exact ⟨ok_cm2 o q p iha.1 ihb.1 ihd.1, trivial⟩
    | bo o a p iha => exact ⟨ok_bo o p iha.1, trivial⟩
    | ite d a b p ihd iha ihb => exact ⟨ok_ite p ihd.1 iha.1 ihb.1, trivial⟩
    | bi f x a p0 p iha => exact ⟨ok_bi f x p0 p iha.1, trivial⟩
    | isi a ty p0 p1 p iha => exact ⟨ok_isi ty p0 p1 p iha.1, trivial⟩
    | cal f m x a p0 p iha => exact ⟨ok_cal f m x p0 p iha.1, trivial⟩
    | lzp a p0 p1 p2 p iha => exact ⟨ok_lzp p0 p1 p2 p iha.1, trivial⟩
    | lsm a p0 p iha => exact ⟨ok_lsm p0 p iha.1, trivial⟩
    | rpm a b p iha ihb => exact ⟨ok_rpm p iha.1 ihb.1, trivial⟩
    | lrg x a p0 p1 p2 p iha => exact ⟨ok_lrg x p0 p1 p2 p iha.1, trivial⟩
    | cp m elt tg it cond sc own p ihe iht ihi ihc => exact ⟨ok_cp m sc own p ihe.1 iht.1 ihi.1 ihc.1, ihe.1, iht.1, ihi.1, ihc.1⟩
    | cp2 m elt tg it cond tg1 it1 cond1 sc own own1 p ihe iht ihi ihc iht1 ihi1 ihc1 => exact ⟨ok_cp2 m sc own own1 p ihe.1 iht.1 ihi.1 ihc.1 iht1.1 ihi1.1 ihc1.1, ⟨ihe.1, iht.1, ihi.1, ihc.1⟩, iht1.1, ihi1.1, ihc1.1⟩
    | dcp2 kx vx tg it cond tg1 it1 cond1 sc own own1 p ihk ihe iht ihi ihc iht1 ihi1 ihc1 => exact ⟨ok_dcp2 sc own own1 p ihk.1 ihe.1 iht.1 ihi.1 ihc.1 iht1.1 ihi1.1 ihc1.1, ⟨ihk.1, ihe.1, iht.1, ihi.1, ihc.1⟩, iht1.1, ihi1.1, ihc1.1⟩
    | ldk a p0 p iha => exact ⟨ok_ldk p0 p iha.1, trivial⟩
    | dvl o p0 p iho => exact ⟨ok_dvl p0 p iho.1, trivial⟩
    | app o x p0 p iho ihx => exact ⟨ok_app p0 p iho.1 ihx.1, trivial⟩
    | met f o a p0 p iho iha => exact ⟨ok_met f p0 p iho.1 iha.1, trivial⟩
    | sb b a p0 p1 p2 p iha => exact ⟨ok_sb b p0 p1 p2 p iha.1, trivial⟩
    | dct0 p => exact ⟨ok_dct0 p, trivial⟩
    | dct1 a b p iha ihb => exact ⟨ok_dct1 p iha.1 ihb.1, trivial⟩
    | dcp kx vx tg it cond sc own p ihk ihe iht ihi ihc => exact ⟨ok_dcp sc own p ihk.1 ihe.1 iht.1 ihi.1 ihc.1, ihk.1, ihe.1, iht.1, ihi.1, ihc.1⟩
    | isx a D p0 p1 p iha => exact ⟨ok_isx D p0 p1 p iha.1, trivial⟩
    | vlu a p iha => exact ⟨ok_vlu p iha.1, trivial⟩
    | mkx x a p0 p iha => exact ⟨ok_mkx x p0 p iha.1, trivial⟩
    | shr a p0 p iha => exact ⟨ok_shr p0 p iha.1, trivial⟩
    | dv0 p => exact ⟨ok_dv0 p, trivial⟩
    | dvc k kk kp v vk vp p => exact ⟨ok_dvc k kk kp v vk vp p, trivial⟩
    | rax x a p0 p1 p iha => exact ⟨ok_rax x p0 p1 p iha.1, trivial⟩
    | dix a b p iha ihb => exact ⟨ok_dix p iha.1 ihb.1, trivial⟩
    | din n a b p iha ihb => exact ⟨ok_din n p iha.1 ihb.1, trivial⟩
    | dme f o a p0 p iho iha => exact ⟨ok_dme f p0 p iho.1 iha.1, trivial⟩
    | itm o p0 p iho => exact ⟨ok_itm p0 p iho.1, trivial⟩
    | dwk o iho => exact ⟨ok_dwk iho.1, trivial⟩
    | das i x px d p ihd => exact ⟨ok_das i x px p ihd.2, trivial⟩
    | dst a b x q p iha ihb ihx => exact ⟨ok_dst q p iha.1 ihb.1 ihx.1, trivial⟩
    | dag a b o x q p iha ihb ihx => exact ⟨ok_dag o q p iha.1 ihb.1 ihx.1, trivial⟩
    | pl x ih => exact ⟨ok_pl ih.1, trivial⟩
    | rg a p0 p iha => exact ⟨ok_rg p0 p iha.1, trivial⟩
    | en a p0 p iha => exact ⟨ok_en p0 p iha.1, trivial⟩
    | zp a p0 p iha => exact ⟨ok_zp p0 p iha.1, trivial⟩
    | ez a p0 p1 p2 p iha => exact ⟨ok_ez p0 p1 p2 p iha.1, trivial⟩
    | nil => exact ⟨ok_nil, trivial⟩
    | cons a b iha ihb => exact ⟨ok_cons iha.1 ihb.1, trivial⟩
    | star a b p iha ihb => exact ⟨ok_star p iha.1 ihb.1, trivial⟩
    | «as» t x p iht ihx => exact ⟨ok_as p iht.1 ihx.1 ihx.2, trivial⟩
    | pa ts es k1 k2 p1 p2 p iht ihe => exact ⟨ok_pa k1 k2 p1 p2 p iht.1 ihe.1, trivial⟩
    | ag t o x p iht ihx => exact ⟨ok_ag o p ihx.1, trivial⟩
    | agI a b o x q p iha ihb ihx => exact ⟨ok_agI o q p iha.1 ihb.1 ihx.1, trivial⟩
    | iff d a b p ihd iha ihb => exact ⟨ok_iff p ihd.1 iha.1 ihb.1, trivial⟩
    | wh d b p ihd ihb => exact ⟨ok_wh p ihd.1 ihb.1, trivial⟩
    | fo t it b p iht ihi ihb => exact ⟨ok_fo p iht.1 ihi.1 ihb.1, trivial⟩
    | re x p ihx => exact ⟨ok_re p ihx.1, trivial⟩
    | exs x p ihx => exact ⟨ok_exs p ihx.1, trivial⟩
    | bk p => exact ⟨.ofS fun c C E g hp h => sBreak, trivial⟩
    | ct p => exact ⟨.ofS fun c C E g hp h => sCont, trivial⟩
    | ps p => exact ⟨.ofS fun c C E g hp h => sPass, trivial⟩
    | ra p x => exact ⟨ok_ra p x, trivial⟩
    | xs q => exact ⟨ok_xs q, trivial⟩
  exact all.1
end
end Mi
end
section
set_option Elab.async false
set_option linter.all false
set_option maxRecDepth 100000
set_option maxHeartbeats 2000000
/-! M22: the law's defs, level by level; the law's end. -/
namespace Mi
open PySem PySem.Spec PyProof.Rows
open L2 (V HO Hp upd upd_same upd_ne SqL SqT Rd Cx Inv PE PT PA PS PSs PG PGs PI TE TT TA TS TG TGs TI It VK XK Ends RelV Vals ne_of_none OpR R2 EP CallR UnR IxR SlR TruR Gl Vis Loc Itl Itt Itr wipe Room Env0 CR CE CXT HOk hidT)
/-- a def of the law as it stands behind the top -/
structure DfOk (w : Wd) (K : Fg) (mg : Str → Option Value) (d : Df) (x : Str) : Prop where
  ex : ∃ (f : Addr) (name qual : Str) (params : Arguments) (scope : Scope) (dV kV doc pm cdv ct oc : Value) (an od : Option Addr) (osl : Array (Option Value)) (N ps : List Str),
    mg x = some (.ref f) ∧ PySem.W.keepIn K (.ref f) = true ∧ K.lookup f = some ⟨oc, od, .func (PySem.W.fnOf name qual params (toSs d.b) scope dV kV doc pm an cdv ct), osl⟩ ∧ PySem.W.codeIn K cdv qual = true ∧ L2.FnScope N ps scope ∧
      N.length = d.m ∧ ps.length = d.n ∧ (wf w d.b ⟨N, scope, fun _ => true⟩).ss = true ∧ L2.Binds K (PySem.W.fnOf name qual params (toSs d.b) scope dV kV doc pm an cdv ct) ps []
/-- what the law's text gives -/
structure Law (w : Wd) (ds : List Df) (K : Fg) (mg : Str → Option Value) : Prop where
  gl : ∀ (i : Nat) (x : Str), w.gn[i]? = some x → ∃ (u : Value) (v : V) (d : P), mg x = some u ∧ RelV v u ∧ w.gl[i]? = some d ∧ ∀ m H, RepP K m H d v
  bn : ∀ x ∈ bnames, mg x = none
  df : ∀ (i : Nat) (x : Str), w.fn[i]? = some x → ∃ d, ds[i]? = some d ∧ DfOk w K mg d x
section
variable {cl : Str → Value} {w : Wd} {ds : List Df} {K : Fg} {mg : Str → Option Value}
theorem fn_k {Pr : Program} {wd : World} (L : Law w ds K mg) (LE : ErrG cl w K mg Pr) : ∀ (k i : Nat) (x : Str), w.fn[i]? = some x → ∃ (f : Addr) (fd : FuncData) (ps : List Str), mg x = some (.ref f) ∧ PySem.W.keepIn K (.ref f) = true ∧ L2.Binds K fd ps [] ∧
    (∀ base : Heap, FnG cl Pr wd K mg base (k + 3) f fd ps (callK w.gl ds k i)) ∧ ∀ as st, callK w.gl ds k i as st ≠ .no → as.length = ps.length
  | 0, i, x, hx => by
    obtain ⟨d, hd, D⟩ := L.df i x hx
    obtain ⟨f, name, qual, params, scope, dV, kV, doc, pm, cdv, ct, oc, an, od, osl, N, ps, e1, e2, e3, e4, e5, e6, e7, e8, e9⟩ := D.ex
    exact ⟨f, _, ps, e1, e2, e9, fun _ => ⟨fun A outer s H args us vs Q E O ρ as st _ _ _ _ _ _ _ h => h.elim⟩, fun as st h => absurd rfl h⟩
  | k + 1, i, x, hx => by
    obtain ⟨d, hd, D⟩ := L.df i x hx
    obtain ⟨f, name, qual, params, scope, dV, kV, doc, pm, cdv, ct, oc, an, od, osl, N, ps, e1, e2, e3, e4, e5, e6, e7, e8, e9⟩ := D.ex
    have hc : callK w.gl ds (k + 1) i = fun vs st => if vs.length = ps.length then endX ((sem w.gl (callK w.gl ds k) d.b).s (vs.map some ++ List.replicate (d.m - ps.length) none) st) else .no := by
      funext vs st
      show (match ds[i]? with | some d => runD d (sem w.gl (callK w.gl ds k) d.b).s vs st | none => .no) = _
      rw [hd]
      show runD d _ vs st = _
      unfold runD
      rw [e7]
    refine ⟨f, _, ps, e1, e2, e9, fun base => ?_, fun as st h => ?_⟩
    · rw [hc]
      refine fn_g e3 e4 e5 e6 fun A outer s H E hr hgu => ?_
      refine (ok d.b).ss ⟨N, scope, fun _ => true⟩ _ E ?_ (L2.passes_of rfl) e8
      exact ⟨rfl, rfl, e5.nd, rfl, e5.kind, fun _ _ => rfl, L2.takes_of rfl rfl rfl rfl, hgu, L.gl, L.bn, LE, k + 3, hr, by omega, fun j y hy => let ⟨f, fd, ps, a, b, c, d, e⟩ := fn_k L LE k j y hy; ⟨f, fd, ps, a, b, c, d base, e⟩⟩
    · rw [hc] at h
      dsimp only at h
      by_cases q : as.length = ps.length
      · exact q
      · rw [if_neg q] at h
        exact absurd rfl h
end
/-! ### the law's end -/
/-- what is tracked at the law's call: the script (where it is none of the module's own), the code objects' tables -/
noncomputable def endH (K : Fg) (a : Addr) (o : Obj) (xs : List V) (T : List Addr) : Hp := fun b =>
  open Classical in if b = a ∧ K.lookup a = none then some (.frz o (.lst xs)) else if b ∈ T then some (.tbl #[]) else none
theorem law_g {cl : Str → Value} {Pr : Program} {w : World} {K : Fg} {mg mb : Str → Option Value} {k : Nat} {fa a : Addr} {cs : List (Addr × Addr)} {fd : FuncData} {x : Str} {g : List Vl → Sr → R Vl} {s1 : Shared} {us : List Value} {ns : List Int}
    (KX : K.In s1.heap) (hG : s1.heap.Ns mainGlobals mg) (hB : s1.heap.Ns builtinsNs mb) (hBB : ∀ x : Str, x ≠ "__name__" → mb x = bootBuiltins x) (hL : s1.heap.NoLimit) (hgens : s1.gens = #[])
    (tabs : ∀ p ∈ cs, s1.heap.get? p.2 = some { cls := .none, data := .fields #[] } ∧ K.lookup p.2 = none ∧ PySem.W.CodeHd s1.heap p.1 p.2)
    (bmod : ∃ (bm : Addr) (ob : Obj), mg "__builtins__" = some (.ref bm) ∧ bm ≠ builtinsNs ∧ s1.heap.get? bm = some ob ∧ ob.cls = .type "module" ∧ ob.dict = some builtinsNs ∧ ob.data = .plain)
    (ha : s1.heap.get? a = some { cls := .type "list", data := .seq us.toArray }) (hi : IntsAre us ns) (hz : ns.length ≤ sizeLine) (room : Room k callerA)
    (F : ∀ base : Heap, K.In base → base.Ns mainGlobals mg → (∀ p ∈ cs, LamX.TabB base mg p.1 p.2) → FnG cl Pr w K mg base k fa fd [x] g) (hb : L2.Binds K fd [x] [])
    (hv : ∃ st', g [.p (.list (ns.map PyData.int))] [] = .ok (.p (.bool true)) st') :
    codeAny (model Pr w) callerA (.call (.ref fa) ⟨[.ref a], []⟩) (fun r s' => r = .ok (.ret (.bool true)) ∧ OldK s1.heap s'.heap ∧ s'.os = s1.os ∧ AllBare s'.gens) s1 := by
  have rv := L2.vals_ints hi
  have lu : us.length = ns.length := hi.length
  generalize hT : cs.map (·.2) = T
  have tab : ∀ {b : Addr}, b ∈ T → s1.heap.get? b = some { cls := .none, data := .fields #[] } ∧ K.lookup b = none := fun {b} h => by
    rw [← hT] at h
    obtain ⟨p, hp, rfl⟩ := List.mem_map.mp h
    exact ⟨(tabs p hp).1, (tabs p hp).2.1⟩
  have inT : ∀ p ∈ cs, p.2 ∈ T := fun p hp => hT ▸ List.mem_map.mpr ⟨p, hp, rfl⟩
  generalize hob : ({ cls := .type "list", data := .seq us.toArray } : Obj) = oa at ha
  have nat : a ∉ T := fun z => by
    have q := (tab z).1
    rw [ha, ← hob] at q
    cases congrArg Obj.data (Option.some.inj q)
  generalize hH : endH K a oa (ns.map V.int) T = H
  -- what H says at an address
  have cases3 : ∀ b : Addr, (b = a ∧ K.lookup a = none ∧ H b = some (.frz oa (.lst (ns.map V.int)))) ∨ (b ∈ T ∧ H b = some (.tbl #[])) ∨ ((b = a → K.lookup a ≠ none) ∧ b ∉ T ∧ H b = none) := fun b => by
    subst hH
    unfold endH
    by_cases h1 : b = a ∧ K.lookup a = none
    · exact .inl ⟨h1.1, h1.2, if_pos h1⟩
    · by_cases h2 : b ∈ T
      · exact .inr (.inl ⟨h2, by rw [if_neg h1, if_pos h2]⟩)
      · exact .inr (.inr ⟨fun e q => h1 ⟨e, q⟩, h2, by rw [if_neg h1, if_neg h2]⟩)
  have untr : ∀ {b : Addr} {o : Obj}, s1.heap.get? b = some o → (∀ xs n, o.data ≠ .seq xs n) → o.data ≠ .fields #[] → H b = none := fun {b o} e n1 n2 => by
    rcases cases3 b with ⟨rfl, _, _⟩ | ⟨h, _⟩ | ⟨_, _, h⟩
    · rw [ha, ← hob] at e; cases e; exact absurd rfl (n1 _ _)
    · rw [(tab h).1] at e; cases e; exact absurd rfl n2
    · exact h
  have low : ∀ {b : Addr} {o : Obj}, s1.heap.get? b = some o → H b = none → (hidT s1.heap H).get? b = some o := fun e n => L2.hidT_get e n
  have lowNs : ∀ {b : Addr} {m : Str → Option Value}, s1.heap.Ns b m → (hidT s1.heap H).Ns b m := fun ⟨o, es, ep, e, d, r⟩ => ⟨o, es, ep, low e (untr e (fun _ _ z => by rw [d] at z; cases z) fun z => by rw [d] at z; cases z), d, r⟩
  have KB : K.In (hidT s1.heap H) := fun b o e => low (KX b o e) (by
    rcases cases3 b with ⟨rfl, h, _⟩ | ⟨h, _⟩ | ⟨_, _, h⟩
    · rw [h] at e; cases e
    · rw [(tab h).2] at e; cases e
    · exact h)
  obtain ⟨mc, l1, l2⟩ := hL
  have M : L2.Mod K mg (hidT s1.heap H) := ⟨KB, lowNs hG, ⟨mb, lowNs hB, hBB⟩, mc, lowNs l1, l2⟩
  have TB : ∀ p ∈ cs, LamX.TabB (hidT s1.heap H) mg p.1 p.2 := fun p hp => by
    obtain ⟨t1, _, o, ws, file, tf, flags, tg, inF, text, tt, c1, c2, c3, c4, cr⟩ := tabs p hp
    obtain ⟨bm, ob, b1, b2, b3, b4, b5, b6⟩ := bmod
    obtain ⟨og, es, ep, g1, g2, _⟩ := id hG
    have hne : mainGlobals ≠ p.2 := fun z => by rw [z, t1] at g1; cases g1; cases g2
    have hbp : bm ≠ p.2 := fun z => by rw [z, t1] at b3; cases b3; cases b6
    have hbg : bm ≠ mainGlobals := fun z => by rw [z, g1] at b3; cases b3; rw [g2] at b6; cases b6
    have ub : H bm = none := untr b3 (fun _ _ z => by rw [b6] at z; cases z) fun z => by rw [b6] at z; cases z
    have uc : H p.1 = none := untr c1 (fun _ _ z => by rw [c3] at z; cases z) fun z => by
      rw [c3] at z; cases z; simp at c4
    exact ⟨⟨o, ws, file, tf, flags, tg, inF, text, tt, low c1 uc, c2, c3, c4, cr⟩, ⟨bm, ob, b1, b2, hbg, hbp, low b3 ub, b4, b5, b6⟩, hne⟩
  have okH : HOk Pr w H s1.heap := fun b u e => by
    rcases cases3 b with ⟨rfl, _, h⟩ | ⟨ht, h⟩ | ⟨_, _, h⟩
    · rw [h] at e; cases e
      exact ⟨ha, by rw [List.length_map]; exact hz, us, 0, rv, by rw [hob]; exact ha⟩
    · rw [h] at e; cases e
      exact (tab ht).1
    · rw [h] at e; cases e
  have E0 : Env0 Pr w K mg (hidT s1.heap H) callerA [] s1 H := ⟨rfl, M, fun _ _ e => L2.of_hidT e, Nat.le_of_eq (L2.hidT_size _ _), trivial, fun b hb => by simp [L2.frs] at hb, okH, .of_eq hgens⟩
  have RS : RelS K (fun _ => False) (fun _ => 0) H [] := ⟨fun _ _ h => by simp at h, fun _ _ h => by simp at h, fun _ h => by simp at h, fun _ h => h.elim⟩
  have noMt : ∀ b, ¬ Mt (fun _ => False) (fun _ => 0) [] b := fun b q => q.elim id fun ⟨_, _, h, _⟩ => by simp at h
  have reqI : ∀ (l : List Int), ReqP K (Mt (fun _ => False) (fun _ => 0) []) H (l.map PyData.int) (l.map V.int) := fun l => by
    induction l with
    | nil => exact .nil
    | cons i l ih => exact .cons (.int i) ih
  have ls : LsD K (Mt (fun _ => False) (fun _ => 0) []) H a (ns.map V.int) := by
    rcases cases3 a with ⟨_, _, h⟩ | ⟨h, _⟩ | ⟨h, _, _⟩
    · exact .inl ⟨.inr ⟨oa, h⟩, noMt a⟩
    · exact absurd h nat
    · cases q : K.lookup a with
      | none => exact absurd q (h rfl)
      | some o =>
        have e := KX a o q
        rw [ha] at e
        cases e
        exact .inr ⟨us, 0, by rw [q, ← hob], by rw [List.length_map]; exact hz, rv⟩
  obtain ⟨st', hv⟩ := hv
  refine codeAny_mono ((F _ KB (lowNs hG) TB).run callerA [] s1 H ⟨[.ref a], []⟩ [.ref a] [.ref a] (fun v _ => v = .bl true) (fun _ _ _ => False) _ _ [.p (.list (ns.map PyData.int))] [] room rfl E0 (hb s1 [.ref a] KX rfl) (.cons rfl .nil) RS (.cons (RepP.lst ls (reqI ns)) .nil)
    (by rw [hv]; exact fun ρ' H' b _ _ r => RepP.bl_inv r)) fun r s' h => ?_
  match r, h with
  | .error e, h => obtain ⟨_, _, _, _, _, _, _, _, _, _, _, _, h⟩ := h; exact h.elim
  | .ok .next, h => exact h.elim
  | .ok .brk, h => exact h.elim
  | .ok .cont, h => exact h.elim
  | .ok (.ret u), h =>
    obtain ⟨v, H', os, bare, un, hok', r', q⟩ := h
    cases (show v = .bl true from q)
    cases (show u = Value.bool true from r')
    have stay : ∀ b o, b ∉ T → s1.heap.get? b = some o → s'.heap.get? b = some o := fun b o nb e => by
      rcases cases3 b with ⟨rfl, _, h⟩ | ⟨h, _⟩ | ⟨_, _, h⟩
      · have f := un.frzs b _ _ h
        rw [ha] at e; cases e
        exact (hok' b _ f).1
      · exact absurd h nb
      · exact un.keep b o e h (by simp [L2.frs]) (by simp)
    have more : ∀ b, b ∈ T → ∃ ps : Array Value, s'.heap.get? b = some { cls := .none, data := .fields ps } := fun b hb => by
      rcases cases3 b with ⟨rfl, _, _⟩ | ⟨_, h⟩ | ⟨_, h, _⟩
      · exact absurd hb nat
      · obtain ⟨ps, e⟩ := un.tbls b _ h
        exact ⟨_, hok' b _ e⟩
      · exact absurd hb h
    refine ⟨rfl, ⟨fun b o e => ?_, fun b o e => ?_⟩, os, bare⟩
    · by_cases hb : b ∈ T
      · obtain ⟨ps, e2⟩ := more b hb
        rw [(tab hb).1] at e
        cases e
        rw [← hT] at hb
        obtain ⟨p, hp, rfl⟩ := List.mem_map.mp hb
        exact .inr (.inl ⟨((tabs p hp).2.2.tab (tabs p hp).1).isCodeTable, rfl, #[], ps, rfl, by rw [Array.empty_append]; exact e2⟩)
      · exact .inl (stay b o hb e)
    · by_cases hb : b ∈ T
      · obtain ⟨ps, e2⟩ := more b hb
        exact ⟨_, e2⟩
      · exact ⟨o, stay b o hb e⟩
end Mi
end
section
set_option Elab.async false
set_option linter.all false
set_option maxRecDepth 100000
set_option maxHeartbeats 2000000
/-! M23: from the law's value to the row's walk; a def's facts. -/
namespace Mi
open PySem PySem.Spec PyProof.Rows
open L2 (V HO Hp upd upd_same upd_ne RelV Room defArgs defBody defScope)
/-- a def's facts, from the top's text -/
theorem df_mk {w : Wd} {K : Fg} {mg : Str → Option Value} {h : Heap} (X : K.In h) (G : h.Ns mainGlobals mg) {d : Df} {x name qual : Str} {st : Stmt} {N ps : List Str} {f : Addr} {od an : Option Addr} {sl : Array (Option Value)} {oc kV doc pm cdv ct : Value}
    (a : PySem.W.nsIn K mainGlobals x = some (some (.ref f))) (l : K.lookup f = some ⟨oc, od, .func (PySem.W.fnOf name qual (defArgs st) (defBody st) (defScope st) .none kV doc pm an cdv ct), sl⟩) (c : PySem.W.codeIn K cdv qual = true) (k : PySem.W.keepIn K (.ref f) = true)
    (eb : defBody st = toSs d.b) (hs : C8.scC N ps (defScope st) = true) (hm : N.length = d.m) (hn : ps.length = d.n) (hw : (wf w d.b ⟨N, defScope st, fun _ => true⟩).ss = true)
    (hb : ∀ (kV doc pm : Value) (an : Option Addr) (cdv ct : Value) (us : List Value), us.length = ps.length → bindArgs (PySem.W.fnOf name qual (defArgs st) (defBody st) (defScope st) .none kV doc pm an cdv ct) ⟨us, []⟩ = pure (ps.zip us)) : DfOk w K mg d x :=
  ⟨⟨f, name, qual, defArgs st, defScope st, .none, kV, doc, pm, cdv, ct, oc, an, od, sl, N, ps, PySem.W.mg_of X G a, k, eb ▸ l, c, C8.fnScope_by hs, hm, hn, hw, .all (eb ▸ hb kV doc pm an cdv ct)⟩⟩
theorem loose_int {p : Program} {lv : List (Str × PySem.W.WData)} {mg : Str → Option Value} {h : Heap} {x : Str} {n : Int} (X : PySem.W.XL p lv mg h) (hx : (x, PySem.W.WData.int n) ∈ lv) : ∃ u, mg x = some u ∧ RelV (.int n) u := by
  obtain ⟨v, e, r⟩ := X.2.val _ hx
  cases r with
  | int _ t => exact ⟨_, e, t, rfl⟩
/-- the class that a name stands for -/
def clK (K : Fg) (c : Str) : Value := match PySem.W.nsIn K mainGlobals c with
  | some (some v) => v
  | _ => .none
/-- the row's walk from the law's value -/
theorem walk_x {l : PySem.W.OpenLaw} {n k i : Nat} {q : Program} {loose : List Str} {XP : (Str → Option Value) → Heap → Prop} {YP : World → Heap → Prop} {d : DefRec} {K : Params → PySem.W.Frag} {w : Wd} {ds : List Df}
    (hn : l.most = some n) (hn2 : n ≤ sizeLine) (hdf : d.params.defaults = []) (hr : Room (k + 3) callerA) (hi : w.fn[i]? = some d.name)
    (hY : ∀ (w : World) (h : Heap), YP w h → (K w.params).In h)
    (F : ∀ (wd : World) (mg : Str → Option Value) (h : Heap), (K wd.params).In h → h.Ns mainGlobals mg → XP mg h → Law w ds (K wd.params) mg)
    (FE : ∀ (wd : World) (mg : Str → Option Value) (h : Heap), (K wd.params).In h → h.Ns mainGlobals mg → XP mg h → ErrG (clK (K wd.params)) w (K wd.params) mg l.prog)
    (hv : ∀ ns : List Int, ns.length ≤ n → (∀ z ∈ ns, Builtin.Int.intBits z ≤ 1048576) → ∃ st', callK w.gl ds k i [.p (.list (ns.map PyData.int))] [] = .ok (.p (.bool true)) st') :
    PySem.W.WalkO q loose XP YP l.row.toRowW d [] (fun f vs => PySem.call f vs) := by
  refine Att.attach_callB hn hdf fun wd s₀ s₁ mg mb fa o pm cd doc a vs ns G Y ho hd hcd hmg hobj hints hlen hbits hg => ?_
  have KX := hY wd _ Y
  have L := F wd mg _ KX G.T.g G.X
  obtain ⟨st', hv⟩ := hv ns hlen hbits
  obtain ⟨f, fd, ps, e1, e2, e3, e4, e5⟩ := fn_k (cl := clK (K wd.params)) (Pr := l.prog) (wd := wd) L (FE wd mg _ KX G.T.g G.X) k i d.name hi
  have e := hmg.symm.trans e1
  cases e
  have hl := e5 [.p (.list (ns.map PyData.int))] [] (by rw [hv]; intro z; cases z)
  match ps, hl with
  | [x], _ =>
    refine law_g (cl := clK (K wd.params)) (cs := []) (x := x) KX G.T.g G.T.b G.T.builtins G.T.nolimit hg (fun p hp => by cases hp) G.T.bmain hobj hints (Nat.le_trans hlen hn2) hr (fun base hK hM _ => e4 base) e3 ⟨st', hv⟩
/-- .. of a law without errors -/
theorem walk_m {l : PySem.W.OpenLaw} {n k i : Nat} {q : Program} {loose : List Str} {XP : (Str → Option Value) → Heap → Prop} {YP : World → Heap → Prop} {d : DefRec} {K : Params → PySem.W.Frag} {w : Wd} {ds : List Df}
    (hn : l.most = some n) (hn2 : n ≤ sizeLine) (hdf : d.params.defaults = []) (hr : Room (k + 3) callerA) (hi : w.fn[i]? = some d.name)
    (hY : ∀ (w : World) (h : Heap), YP w h → (K w.params).In h)
    (F : ∀ (wd : World) (mg : Str → Option Value) (h : Heap), (K wd.params).In h → h.Ns mainGlobals mg → XP mg h → Law w ds (K wd.params) mg)
    (hv : ∀ ns : List Int, ns.length ≤ n → (∀ z ∈ ns, Builtin.Int.intBits z ≤ 1048576) → ∃ st', callK w.gl ds k i [.p (.list (ns.map PyData.int))] [] = .ok (.p (.bool true)) st') (hc : w.cn = [] := by rfl) :
    PySem.W.WalkO q loose XP YP l.row.toRowW d [] (fun f vs => PySem.call f vs) :=
  walk_x hn hn2 hdf hr hi hY F (fun _ _ _ _ _ _ => by intro c h; rw [hc] at h; cases h) hv
end Mi
end
section
set_option Elab.async false
set_option linter.all false
set_option maxRecDepth 100000
/-! E1: how a tree's meaning is worked out: what the combinators do at values. -/
namespace Mi
open PySem
section
variable {α β : Type} {s s' : Sr} {e e' : En} {v w : Vl} {x y z : P} {i j : Int} {gl : List P} {F : Nat → List Vl → Sr → R Vl}
@[simp] theorem bd_ok {a : α} {f : α → Sr → R β} : (R.ok a s).bd f = f a s := rfl
@[simp] theorem bd_no {f : α → Sr → R β} : (R.no : R α).bd f = .no := rfl
@[simp] theorem bx_ok {a : α} {f : α → Sr → X} : (R.ok a s).bx f = f a s := rfl
@[simp] theorem bx_no {f : α → Sr → X} : (R.no : R α).bx f = .no := rfl
@[simp] theorem th_nx {f : En → Sr → X} : (X.nx e s).th f = f e s := rfl
@[simp] theorem th_rt {f : En → Sr → X} : (X.rt v s).th f = .rt v s := rfl
@[simp] theorem th_bk {f : En → Sr → X} : (X.bk e s).th f = .bk e s := rfl
@[simp] theorem th_ct {f : En → Sr → X} : (X.ct e s).th f = .ct e s := rfl
@[simp] theorem th_no {f : En → Sr → X} : (X.no).th f = .no := rfl
@[simp] theorem of_some {a : α} : R.of (some a) s = .ok a s := rfl
@[simp] theorem of_none : R.of (none : Option α) s = .no := rfl
@[simp] theorem dd_p : dd (.p x) s = some x := rfl
theorem dd_r {n k : Nat} {xs : List P} (h : s[n]? = some (.lp k xs)) : dd (.r n) s = some (.list xs) := by simp [dd, h]
@[simp] theorem ddL_nil : ddL [] s = some [] := rfl
@[simp] theorem ddL_cons {vs : List Vl} : ddL (v :: vs) s = (dd v s).bind fun x => (ddL vs s).map (x :: ·) := by
  simp only [ddL]
  cases dd v s <;> cases ddL vs s <;> rfl
@[simp] theorem ddL_ps {xs : List P} : ddL (xs.map .p) s = some xs := by
  induction xs with
  | nil => rfl
  | cons x xs ih => simp [ih]
@[simp] theorem toP_p : toP (.p x) s = some (x, s) := rfl
@[simp] theorem toPL_nil : toPL [] s = some ([], s) := rfl
@[simp] theorem toPL_cons {vs : List Vl} : toPL (.p x :: vs) s = (toPL vs s).map fun q => (x :: q.1, q.2) := by
  simp only [toPL, toP]
  cases toPL vs s <;> rfl
@[simp] theorem toPL_ps {xs : List P} : toPL (xs.map .p) s = some (xs, s) := by
  induction xs with
  | nil => rfl
  | cons x xs ih => simp [ih]
@[simp] theorem truV_bool {b : Bool} : truV (.p (.bool b)) s = some b := rfl
@[simp] theorem truV_int : truV (.p (.int i)) s = some (i != 0) := rfl
@[simp] theorem truV_none : truV (.p .none) s = some false := rfl
@[simp] theorem tst_ok : tst (.ok v s) = R.of (truV v s) s := rfl
@[simp] theorem tst_no : tst .no = .no := rfl
@[simp] theorem op1_ok {f : P → Option P} : op1 f (.ok v s) = R.of (((dd v s).bind f).map .p) s := by
  simp only [op1, bd_ok]
  cases dd v s with
  | none => rfl
  | some a => cases h : f a <;> simp [h]
@[simp] theorem op1_no {f : P → Option P} : op1 f .no = .no := rfl
@[simp] theorem op2_ok {f : P → P → Option P} {g : Sr → R Vl} : op2 f (.ok v s) g = (g s).bd fun w s => R.of (((dd v s).bind fun a => (dd w s).bind fun b => f a b).map .p) s := by
  simp only [op2, bd_ok]
  cases g s with
  | ok w s =>
    simp only [bd_ok]
    cases dd v s with
    | none => rfl
    | some a =>
      cases dd w s with
      | none => rfl
      | some b => cases h : f a b <;> simp [h]
  | ex => rfl
  | no => rfl
@[simp] theorem op2_no {f : P → P → Option P} {g : Sr → R Vl} : op2 f .no g = .no := rfl
@[simp] theorem opL_ok {f : List P → Option P} {vs : List Vl} : opL f (.ok vs s) = R.of (((ddL vs s).bind f).map .p) s := by
  simp only [opL, bd_ok]
  cases ddL vs s with
  | none => rfl
  | some a => cases h : f a <;> simp [h]
@[simp] theorem opL_no {f : List P → Option P} : opL f .no = .no := rfl
@[simp] theorem orP_ok {f : Sr → R Vl} {b : Bool} : orP (.ok v s) f b = (R.of (truV v s) s).bd fun c s => if c = b then .ok v s else f s := by
  simp only [orP, bd_ok]
  cases truV v s <;> rfl
@[simp] theorem orP_no {f : Sr → R Vl} {b : Bool} : orP .no f b = .no := rfl
@[simp] theorem outOf_tup {xs : List P} : outOf (.p (.tuple xs)) s = some (xs.map .p) := rfl
@[simp] theorem isR_r {n : Nat} : isR (.r n) = true := rfl
@[simp] theorem endX_nx : endX (.nx e s) = .ok (.p .none) s := rfl
@[simp] theorem endX_rt : endX (.rt v s) = .ok v s := rfl
@[simp] theorem endX_no : endX .no = .no := rfl
@[simp] theorem ty_ii : tyP "int" (.int i) = some true := rfl
@[simp] theorem ty_ib {b : Bool} : tyP "int" (.bool b) = some true := rfl
@[simp] theorem ty_is {x : Str} : tyP "int" (.str x) = some false := rfl
@[simp] theorem ty_it {xs : List P} : tyP "int" (.tuple xs) = some false := rfl
@[simp] theorem ty_il {xs : List P} : tyP "int" (.list xs) = some false := rfl
@[simp] theorem ty_in : tyP "int" .none = some false := rfl
@[simp] theorem ty_bi : tyP "bool" (.int i) = some false := rfl
@[simp] theorem ty_bb {b : Bool} : tyP "bool" (.bool b) = some true := rfl
@[simp] theorem ty_tt {xs : List P} : tyP "tuple" (.tuple xs) = some true := rfl
@[simp] theorem ty_tl {xs : List P} : tyP "tuple" (.list xs) = some false := rfl
@[simp] theorem ty_ti : tyP "tuple" (.int i) = some false := rfl
@[simp] theorem ty_tb {b : Bool} : tyP "tuple" (.bool b) = some false := rfl
@[simp] theorem ty_tn : tyP "tuple" .none = some false := rfl
@[simp] theorem ty_ts {x : Str} : tyP "tuple" (.str x) = some false := rfl
@[simp] theorem ty_ss {x : Str} : tyP "str" (.str x) = some true := rfl
@[simp] theorem blP_some {b : Bool} : blP (some b) = some (.bool b) := rfl
@[simp] theorem lnk_p {o : CmpOp} : lnk o (.p x) (.p y) s = cmpP o x y := rfl
@[simp] theorem c_lt : cmpP .Lt (.int i) (.int j) = some (decide (i < j)) := rfl
@[simp] theorem c_le : cmpP .LtE (.int i) (.int j) = some (decide (i ≤ j)) := rfl
@[simp] theorem c_gt : cmpP .Gt (.int i) (.int j) = some (decide (j < i)) := rfl
@[simp] theorem c_ge : cmpP .GtE (.int i) (.int j) = some (decide (j ≤ i)) := rfl
@[simp] theorem c_eq : cmpP .Eq (.int i) (.int j) = some (decide (i = j)) := rfl
@[simp] theorem c_ne : cmpP .NotEq (.int i) (.int j) = some (!decide (i = j)) := rfl
@[simp] theorem c_eqs {x y : Str} : cmpP .Eq (.str x) (.str y) = some (decide (x = y)) := rfl
@[simp] theorem c_nes {x y : Str} : cmpP .NotEq (.str x) (.str y) = some (!decide (x = y)) := rfl
@[simp] theorem b_add : binP .Add (.int i) (.int j) = some (.int (i + j)) := rfl
@[simp] theorem b_sub : binP .Sub (.int i) (.int j) = some (.int (i - j)) := rfl
theorem b_mul (h : MulOk i j) : binP .Mult (.int i) (.int j) = some (.int (i * j)) := if_pos h
theorem b_div (h : DivOk j) : binP .FloorDiv (.int i) (.int j) = some (.int (i / j)) := if_pos h
theorem b_mod (h : 0 < j) : binP .Mod (.int i) (.int j) = some (.int (i % j)) := if_pos h
theorem b_pow (h : PowOk i j) : binP .Pow (.int i) (.int j) = some (.int (i ^ j.toNat)) := if_pos h
@[simp] theorem bi_int : biP .int [.int i] = some (.int i) := rfl
@[simp] theorem bi_intb {b : Bool} : biP .int [.bool b] = some (.int (if b then 1 else 0)) := rfl
@[simp] theorem bi_abs : biP .abs [.int i] = some (.int (if i < 0 then -i else i)) := rfl
@[simp] theorem bi_lenT {xs : List P} : biP .len [.tuple xs] = some (.int xs.length) := rfl
@[simp] theorem bi_lenL {xs : List P} : biP .len [.list xs] = some (.int xs.length) := rfl
@[simp] theorem bi_tupL {xs : List P} : biP .tuple [.list xs] = some (.tuple xs) := rfl
@[simp] theorem bi_listT {xs : List P} : biP .list [.tuple xs] = some (.list xs) := rfl
@[simp] theorem bi_max2 : biP .max [.int i, .int j] = some (.int (if j > i then j else i)) := rfl
@[simp] theorem bi_min2 : biP .min [.int i, .int j] = some (.int (if j < i then j else i)) := rfl
@[simp] theorem bools_map {bs : List Bool} : bools? (bs.map .bool) = some bs := by
  induction bs with
  | nil => rfl
  | cons b r ih => simp [bools?, ih]
@[simp] theorem ints_map {ns : List Int} : ints? (ns.map .int) = some ns := by
  induction ns with
  | nil => rfl
  | cons b r ih => simp [ints?, ih]
@[simp] theorem bi_all {bs : List Bool} : biP .all [.list (bs.map .bool)] = some (.bool (bs.all id)) := by simp [biP]
@[simp] theorem bi_any {bs : List Bool} : biP .any [.list (bs.map .bool)] = some (.bool (bs.any id)) := by simp [biP]
@[simp] theorem bi_sumL {ns : List Int} : biP .sum [.list (ns.map .int)] = some (.int ns.sum) := by simp [biP]
@[simp] theorem bi_sumT {ns : List Int} : biP .sum [.tuple (ns.map .int)] = some (.int ns.sum) := by simp [biP]
@[simp] theorem s_c_e {x : Const} {k : Nat} {p : Pos} : (sem gl F (.c x k p)).e = eC x := rfl
@[simp] theorem s_v_e {n : Nat} {x : Str} {p : Pos} : (sem gl F (.v n x p)).e = eV n := rfl
@[simp] theorem s_v_k {n : Nat} {x : Str} {p : Pos} : (sem gl F (.v n x p)).k = kV n := rfl
@[simp] theorem s_g_e {n : Nat} {x : Str} {p : Pos} : (sem gl F (.g n x p)).e = eG gl n := rfl
@[simp] theorem s_tup_e {a : T} {k : Nat} {p : Pos} : (sem gl F (.tup a k p)).e = eTup (sem gl F a) := rfl
@[simp] theorem s_tup_k {a : T} {k : Nat} {p : Pos} : (sem gl F (.tup a k p)).k = kTup (cnt a) (sem gl F a) := rfl
@[simp] theorem s_lst_e {m : Bool} {a : T} {p : Pos} : (sem gl F (.lst m a p)).e = eLst m (sem gl F a) := rfl
@[simp] theorem s_ix_e {a b : T} {p : Pos} : (sem gl F (.ix a b p)).e = eIx (sem gl F a) (sem gl F b) := rfl
@[simp] theorem s_ix_k {a b : T} {p : Pos} : (sem gl F (.ix a b p)).k = kIx (sem gl F a) (sem gl F b) := rfl
@[simp] theorem s_sl_e {a lo hi : T} {p q : Pos} : (sem gl F (.sl a lo hi p q)).e = eSl (sem gl F a) (sem gl F lo) (sem gl F hi) := rfl
@[simp] theorem s_rv_e {a : T} {k : Nat} {p p1 p2 p3 : Pos} : (sem gl F (.rv a k p p1 p2 p3)).e = eRv (sem gl F a) := rfl
@[simp] theorem s_bin_e {a b : T} {o : Operator} {p : Pos} : (sem gl F (.bin a o b p)).e = eBin o (sem gl F a) (sem gl F b) := rfl
@[simp] theorem s_neg_e {a : T} {p : Pos} : (sem gl F (.neg a p)).e = eNeg (sem gl F a) := rfl
@[simp] theorem s_nt_e {a : T} {p : Pos} : (sem gl F (.nt a p)).e = eNt (sem gl F a) := rfl
@[simp] theorem s_cmp_e {a b : T} {o : CmpOp} {p : Pos} : (sem gl F (.cmp a o b p)).e = eCmp o (sem gl F a) (sem gl F b) := rfl
@[simp] theorem s_cm2_e {a b c : T} {o q : CmpOp} {p : Pos} : (sem gl F (.cm2 a o b q c p)).e = eCm2 o q (sem gl F a) (sem gl F b) (sem gl F c) := rfl
@[simp] theorem s_and_e {a : T} {p : Pos} : (sem gl F (.bo .And a p)).e = (sem gl F a).bo false := rfl
@[simp] theorem s_or_e {a : T} {p : Pos} : (sem gl F (.bo .Or a p)).e = (sem gl F a).bo true := rfl
@[simp] theorem s_ite_e {c a b : T} {p : Pos} : (sem gl F (.ite c a b p)).e = eIte (sem gl F c) (sem gl F a) (sem gl F b) := rfl
@[simp] theorem s_bi_e {f : Bi} {x : Str} {a : T} {p0 p : Pos} : (sem gl F (.bi f x a p0 p)).e = eBi f (sem gl F a) := rfl
@[simp] theorem s_isi_e {a : T} {t : Str} {p0 p1 p : Pos} : (sem gl F (.isi a t p0 p1 p)).e = eIsi t (sem gl F a) := rfl
@[simp] theorem s_cal_e {f : Nat} {m : Bool} {x : Str} {a : T} {p0 p : Pos} : (sem gl F (.cal f m x a p0 p)).e = eCal (F f) m (sem gl F a) := rfl
@[simp] theorem s_lzp_e {a : T} {p0 p1 p2 p : Pos} : (sem gl F (.lzp a p0 p1 p2 p)).e = eLzp (sem gl F a) := rfl
@[simp] theorem s_lsm_e {a : T} {p0 p : Pos} : (sem gl F (.lsm a p0 p)).e = eLsm (sem gl F a) := rfl
@[simp] theorem s_rpm_e {a b : T} {p : Pos} : (sem gl F (.rpm a b p)).e = eRpm (sem gl F a) (sem gl F b) := rfl
@[simp] theorem s_lrg_e {x : Str} {a : T} {p0 p1 p2 p : Pos} : (sem gl F (.lrg x a p0 p1 p2 p)).e = eLrg (sem gl F a) := rfl
@[simp] theorem s_cp_e {m : Bool} {elt tg it cond : T} {sc : Scope} {own : List (Str × Nat)} {p : Pos} : (sem gl F (.cp m elt tg it cond sc own p)).e = eCp m (sem gl F elt) (sem gl F tg) (sem gl F it) (sem gl F cond) (own.map (·.2)) := rfl
@[simp] theorem s_app_e {o x : T} {p0 p : Pos} : (sem gl F (.app o x p0 p)).e = eApp (sem gl F o) (sem gl F x) := rfl
@[simp] theorem s_met_e {f : Me} {o a : T} {p0 p : Pos} : (sem gl F (.met f o a p0 p)).e = eMet f (sem gl F o) (sem gl F a) := rfl
@[simp] theorem s_sb_e {b : Bool} {a : T} {p0 p1 p2 p : Pos} : (sem gl F (.sb b a p0 p1 p2 p)).e = eSb b (sem gl F a) := rfl
@[simp] theorem s_dct0_e {p : Pos} : (sem gl F (.dct0 p)).e = eD0 := rfl
@[simp] theorem s_dct1_e {a b : T} {p : Pos} : (sem gl F (.dct1 a b p)).e = eD1 (sem gl F a) (sem gl F b) := rfl
@[simp] theorem s_dcp_e {kx vx tg it cond : T} {sc : Scope} {own : List (Str × Nat)} {p : Pos} : (sem gl F (.dcp kx vx tg it cond sc own p)).e = eDc (sem gl F kx) (sem gl F vx) (sem gl F tg) (sem gl F it) (sem gl F cond) (own.map (·.2)) := rfl
@[simp] theorem s_dix_e {a b : T} {p : Pos} : (sem gl F (.dix a b p)).e = eDix (sem gl F a) (sem gl F b) := rfl
@[simp] theorem s_din_e {n : Bool} {a b : T} {p : Pos} : (sem gl F (.din n a b p)).e = eDin n (sem gl F a) (sem gl F b) := rfl
@[simp] theorem s_dme_e {f : Me} {o a : T} {p0 p : Pos} : (sem gl F (.dme f o a p0 p)).e = eDme f (sem gl F o) (sem gl F a) := rfl
@[simp] theorem s_cp2_e {m : Bool} {elt tg it cond tg1 it1 cond1 : T} {sc : Scope} {own : List (Str × Nat)} {own1 : List Nat} {p : Pos} : (sem gl F (.cp2 m elt tg it cond tg1 it1 cond1 sc own own1 p)).e = eCp2 m (sem gl F elt) (sem gl F tg) (sem gl F it) (sem gl F cond) (sem gl F tg1) (sem gl F it1) (sem gl F cond1) (own.map (·.2)) own1 := rfl
@[simp] theorem s_dcp2_e {kx vx tg it cond tg1 it1 cond1 : T} {sc : Scope} {own : List (Str × Nat)} {own1 : List Nat} {p : Pos} : (sem gl F (.dcp2 kx vx tg it cond tg1 it1 cond1 sc own own1 p)).e = eDc2 (sem gl F kx) (sem gl F vx) (sem gl F tg) (sem gl F it) (sem gl F cond) (sem gl F tg1) (sem gl F it1) (sem gl F cond1) (own.map (·.2)) own1 := rfl
@[simp] theorem s_ldk_e {a : T} {p0 p : Pos} : (sem gl F (.ldk a p0 p)).e = eLdk (sem gl F a) := rfl
@[simp] theorem s_dvl_i {x : T} {p0 p : Pos} : (sem gl F (.dvl x p0 p)).i = iDvl (sem gl F x) := rfl
@[simp] theorem s_itm_i {x : T} {p0 p : Pos} : (sem gl F (.itm x p0 p)).i = iWk true (sem gl F x) := rfl
@[simp] theorem s_dwk_i {x : T} : (sem gl F (.dwk x)).i = iWk false (sem gl F x) := rfl
@[simp] theorem s_das_s {n : Nat} {x : Str} {px p : Pos} {d : T} : (sem gl F (.das n x px d p)).s = fun e s => ((sem gl F d).e e s).bx fun v s => kV n v e s := rfl
@[simp] theorem s_dst_s {a b x : T} {q p : Pos} : (sem gl F (.dst a b x q p)).s = sDst (sem gl F a) (sem gl F b) (sem gl F x) := rfl
@[simp] theorem s_dag_s {a b x : T} {o : Operator} {q p : Pos} : (sem gl F (.dag a b o x q p)).s = sDag o (sem gl F a) (sem gl F b) (sem gl F x) := rfl
@[simp] theorem u_d0 : eD0 e s = .ok (.r s.length) (s ++ [.dp 0 []]) := rfl
@[simp] theorem u_dix {a b : Sm} : eDix a b e s = (a.e e s).bd fun o s => (b.e e s).bd fun i s => R.of ((dixV o i s).map .p) s := rfl
@[simp] theorem u_din {n : Bool} {a b : Sm} : eDin n a b e s = (a.e e s).bd fun x s => (b.e e s).bd fun o s => R.of ((dinV n x o s).map fun b => .p (.bool b)) s := rfl
@[simp] theorem u_dme {f : Me} {o a : Sm} : eDme f o a e s = (o.e e s).bd fun o s => if dat0 o s = true then (a.a e s).bd fun vs s => dmeV f o vs s else .no := rfl
@[simp] theorem u_iwk {b : Bool} {x : Sm} : iWk b x e s = (x.e e s).bd fun v s => wkV b v s := rfl
@[simp] theorem u_edc2 {kx vx tg it cond tg1 it1 cond1 : Sm} {own own1 : List Nat} : eDc2 kx vx tg it cond tg1 it1 cond1 own own1 e s = (it.i e s).bd fun w s => (dc2All tg cond it1 tg1 cond1 kx vx own1 (wipeE e own) w s).bd fun kvs s => .ok (.r s.length) (s ++ [.dp 0 kvs]) := rfl
@[simp] theorem u_ecp2 {m : Bool} {elt tg it cond tg1 it1 cond1 : Sm} {own own1 : List Nat} : eCp2 m elt tg it cond tg1 it1 cond1 own own1 e s = (it.i e s).bd fun w s => (cp2All tg cond it1 tg1 cond1 elt own1 (wipeE e own) w s).bd fun xs s => mkLs2 m xs s := rfl
@[simp] theorem u_dc2l {kx vx tg cond tg1 it1 cond1 : Sm} {own1 : List Nat} {vs : List Vl} : dc2All tg cond it1 tg1 cond1 kx vx own1 e (.inl vs) s = dc2L tg.k (cnd cond) it1.i tg1.k (cnd cond1) kx.e vx.e own1 e vs [] s := rfl
@[simp] theorem u_cp2l {elt tg cond tg1 it1 cond1 : Sm} {own1 : List Nat} {vs : List Vl} : cp2All tg cond it1 tg1 cond1 elt own1 e (.inl vs) s = cp2L tg.k (cnd cond) it1.i tg1.k (cnd cond1) elt.e own1 e vs s := rfl
@[simp] theorem u_eldk {a : Sm} : eLdk a e s = (a.a e s).bd ldkV := rfl
@[simp] theorem u_idvl {x : Sm} : iDvl x e s = (x.e e s).bd fun v s => dvlV v s := rfl
@[simp] theorem u_edc {kx vx tg it cond : Sm} {own : List Nat} : eDc kx vx tg it cond own e s = (it.i e s).bd fun w s => (dcAll tg cond kx vx (wipeE e own) w s).bd fun kvs s => .ok (.r s.length) (s ++ [.dp 0 kvs]) := rfl
theorem u_d1 {a b : Sm} {k y : P} {s' : Sr} (h1 : a.e e s = .ok (.p k) s) (h2 : b.e e s = .ok (.p y) s) (hk : isKey k = true) : eD1 a b e s = .ok (.r s.length) (s ++ [.dp 0 [(k, y)]]) := by
  simp [eD1, h1, h2, mkD1, key?, hk]
@[simp] theorem u_dst {a b x : Sm} : sDst a b x e s = (x.e e s).bx fun v s => (a.e e s).bx fun o s => (b.e e s).bx fun i s => (R.of (dputV o i v s) s).bx fun s' _ => .nx e s' := by
  simp only [sDst]
  congr 1; funext v s; congr 1; funext o s; congr 1; funext i s
  cases dputV o i v s <;> rfl
@[simp] theorem u_dag {o : Operator} {a b x : Sm} : sDag o a b x e s = (a.e e s).bx fun l s => (b.e e s).bx fun i s => (R.of (dixV l i s) s).bx fun v s => (x.e e s).bx fun w s => (R.of (agV o (.p v) w s) s).bx fun c s => (R.of (dputV l i (.p c) s) s).bx fun s' _ => .nx e s' := by
  simp only [sDag]
  congr 1; funext l s; congr 1; funext i s
  cases dixV l i s with
  | none => rfl
  | some v =>
    show (x.e e s).bx _ = (x.e e s).bx _
    congr 1; funext w s
    cases agV o (.p v) w s with
    | none => rfl
    | some c => 
      show (match dputV l i (.p c) s with | some s => X.nx e s | none => .no) = (R.of (dputV l i (.p c) s) s).bx _
      cases dputV l i (.p c) s <;> rfl
@[simp] theorem s_pl_e {x : T} : (sem gl F (.pl x)).e = (sem gl F x).e := rfl
@[simp] theorem s_pl_i {x : T} : (sem gl F (.pl x)).i = iPl (sem gl F x) := rfl
@[simp] theorem s_pl_z {x : T} : (sem gl F (.pl x)).z = false := rfl
@[simp] theorem s_rg_i {a : T} {p0 p : Pos} : (sem gl F (.rg a p0 p)).i = iRg (sem gl F a) := rfl
@[simp] theorem s_en_i {a : T} {p0 p : Pos} : (sem gl F (.en a p0 p)).i = iEn (sem gl F a) := rfl
@[simp] theorem s_ez_i {a : T} {p0 p1 p2 p : Pos} : (sem gl F (.ez a p0 p1 p2 p)).i = iEz (sem gl F a) := rfl
@[simp] theorem s_zp_i {a : T} {p0 p : Pos} : (sem gl F (.zp a p0 p)).i = iZp (sem gl F a) := rfl
@[simp] theorem s_nil_a : (sem gl F (.nil)).a = fun _ s => .ok [] s := rfl
@[simp] theorem s_nil_s : (sem gl F (.nil)).s = fun e s => .nx e s := rfl
@[simp] theorem s_nil_ks : (sem gl F (.nil)).ks = ksNil := rfl
@[simp] theorem s_nil_z : (sem gl F (.nil)).z = true := rfl
@[simp] theorem s_cons_e {a b : T} : (sem gl F (.cons a b)).e = (sem gl F a).e := rfl
@[simp] theorem s_cons_a {a b : T} : (sem gl F (.cons a b)).a = aCons (sem gl F a) (sem gl F b) := rfl
@[simp] theorem s_cons_s {a b : T} : (sem gl F (.cons a b)).s = fun e s => ((sem gl F a).s e s).th (sem gl F b).s := rfl
@[simp] theorem s_cons_ks {a b : T} : (sem gl F (.cons a b)).ks = ksCons (sem gl F a) (sem gl F b) := rfl
@[simp] theorem s_cons_bo {a b : T} : (sem gl F (.cons a b)).bo = boCons (sem gl F a) (sem gl F b) := rfl
@[simp] theorem s_cons_z {a b : T} : (sem gl F (.cons a b)).z = false := rfl
@[simp] theorem s_star_a {a b : T} {p : Pos} : (sem gl F (.star a b p)).a = aStar (sem gl F a) (sem gl F b) := rfl
@[simp] theorem s_as_s {t x : T} {p : Pos} : (sem gl F (.as t x p)).s = sAs (sem gl F t) (sem gl F x) := rfl
@[simp] theorem s_pa_s {ts es : T} {k1 k2 : Nat} {p1 p2 p : Pos} : (sem gl F (.pa ts es k1 k2 p1 p2 p)).s = sPa (sem gl F ts) (sem gl F es) := rfl
@[simp] theorem s_ag_s {t x : T} {o : Operator} {p : Pos} : (sem gl F (.ag t o x p)).s = sAg o (sem gl F t) (sem gl F x) := rfl
@[simp] theorem s_agI_s {a b x : T} {o : Operator} {q p : Pos} : (sem gl F (.agI a b o x q p)).s = sAgI o (sem gl F a) (sem gl F b) (sem gl F x) := rfl
@[simp] theorem s_iff_s {c a b : T} {p : Pos} : (sem gl F (.iff c a b p)).s = sIf (sem gl F c) (sem gl F a) (sem gl F b) := rfl
@[simp] theorem s_wh_s {c b : T} {p : Pos} : (sem gl F (.wh c b p)).s = sWh (sem gl F c) (sem gl F b) := rfl
@[simp] theorem s_fo_s {t it b : T} {p : Pos} : (sem gl F (.fo t it b p)).s = sFo (sem gl F t) (sem gl F it) (sem gl F b) := rfl
@[simp] theorem s_re_s {x : T} {p : Pos} : (sem gl F (.re x p)).s = sRe (sem gl F x) := rfl
@[simp] theorem s_exs_s {x : T} {p : Pos} : (sem gl F (.exs x p)).s = sEx (sem gl F x) := rfl
@[simp] theorem s_bk_s {p : Pos} : (sem gl F (.bk p)).s = fun e s => .bk e s := rfl
@[simp] theorem s_ct_s {p : Pos} : (sem gl F (.ct p)).s = fun e s => .ct e s := rfl
@[simp] theorem s_ps_s {p : Pos} : (sem gl F (.ps p)).s = fun e s => .nx e s := rfl
@[simp] theorem s_ra_s {p : Pos} {x : Expr} : (sem gl F (.ra p x)).s = fun _ _ => .no := rfl
@[simp] theorem u_c {x : Const} : eC x e s = R.of ((ofC x).map .p) s := rfl
@[simp] theorem ofC_i : ofC (.int i) = some (.int i) := rfl
@[simp] theorem ofC_b {b : Bool} : ofC (.bool b) = some (.bool b) := rfl
@[simp] theorem ofC_n : ofC .none = some .none := rfl
@[simp] theorem ofC_s {x : Str} : ofC (.str x) = some (.str x) := rfl
@[simp] theorem u_v {n : Nat} (h : e[n]? = some (some v)) : eV n e s = .ok v s := by unfold eV; rw [h]
@[simp] theorem u_kv {n : Nat} : kV n v e s = .nx (e.set n (some v)) s := rfl
@[simp] theorem u_tup {a : Sm} : eTup a e s = (a.a e s).bd mkTup := rfl
@[simp] theorem mkTup_ps {xs : List P} (h : xs.length ≤ lim) : mkTup (xs.map .p) s = .ok (.p (.tuple xs)) s := by simp [mkTup, h]
@[simp] theorem mkTup_1 : mkTup [.p x] s = .ok (.p (.tuple [x])) s := mkTup_ps (xs := [x]) (by show _ ≤ 1000000; simp)
@[simp] theorem mkTup_2 : mkTup [.p x, .p y] s = .ok (.p (.tuple [x, y])) s := mkTup_ps (xs := [x, y]) (by show _ ≤ 1000000; simp)
@[simp] theorem mkTup_3 : mkTup [.p x, .p y, .p z] s = .ok (.p (.tuple [x, y, z])) s := mkTup_ps (xs := [x, y, z]) (by show _ ≤ 1000000; simp)
@[simp] theorem u_ktup {n : Nat} {a : Sm} {xs : List P} : kTup n a (.p (.tuple xs)) e s = if xs.length = n then a.ks (xs.map .p) e s else .no := by simp [kTup]
@[simp] theorem u_lst {m : Bool} {a : Sm} : eLst m a e s = (a.a e s).bd (mkLstV m) := rfl
@[simp] theorem mkLstV_ps {xs : List P} (h : xs.length ≤ lim) : mkLstV false (xs.map .p) s = .ok (.p (.list xs)) s := by simp [mkLstV, mkLst, h]
@[simp] theorem mkLstV_nil {m : Bool} : mkLstV m [] s = mkLst m [] s := by simp [mkLstV]
@[simp] theorem mkLst_f {xs : List P} : mkLst false xs s = .ok (.p (.list xs)) s := rfl
@[simp] theorem mkLst_t {xs : List P} : mkLst true xs s = .ok (.r s.length) (s ++ [.lp 0 xs]) := rfl
@[simp] theorem u_ix {a b : Sm} : eIx a b e s = (a.e e s).bd fun o s => (b.e e s).bd fun i s => ixV o i s := rfl
@[simp] theorem ixV_t {xs : List P} : ixV (.p (.tuple xs)) (.p (.int i)) s = R.of ((L2.atI xs i).map .p) s := rfl
@[simp] theorem ixV_l {xs : List P} : ixV (.p (.list xs)) (.p (.int i)) s = R.of ((L2.atI xs i).map .p) s := rfl
theorem ixV_r {n k : Nat} {xs : List P} (h : s[n]? = some (.lp k xs)) : ixV (.r n) (.p (.int i)) s = R.of ((L2.atI xs i).map .p) s := by simp [ixV, h]
@[simp] theorem u_kix {a b : Sm} : kIx a b v e s = (a.e e s).bx fun o s => (b.e e s).bx fun i s => (R.of (setIx o i v s) s).bx fun s' _ => .nx e s' := by
  simp only [kIx]
  congr 1; funext o s; congr 1; funext i s
  cases setIx o i v s <;> rfl
@[simp] theorem u_bin {o : Operator} {a b : Sm} : eBin o a b e s = op2 (binP o) (a.e e s) fun s => b.e e s := rfl
@[simp] theorem u_neg {a : Sm} : eNeg a e s = op1 negP (a.e e s) := rfl
@[simp] theorem negP_i : negP (.int i) = some (.int (-i)) := rfl
@[simp] theorem u_nt {a : Sm} : eNt a e s = (tst (a.e e s)).bd fun b s => .ok (.p (.bool !b)) s := rfl
@[simp] theorem u_cmp {o : CmpOp} {a b : Sm} : eCmp o a b e s = op2 (fun x y => blP (cmpP o x y)) (a.e e s) fun s => b.e e s := rfl
@[simp] theorem u_cm2 {o q : CmpOp} {a b c : Sm} : eCm2 o q a b c e s = (a.e e s).bd fun x s => (b.e e s).bd fun y s => (R.of (lnk o x y s) s).bd fun t s => if t then (c.e e s).bd fun w s => R.of ((blP (lnk q y w s)).map .p) s else .ok (.p (.bool false)) s := by
  simp only [eCm2]
  congr 1; funext x s; congr 1; funext y s
  cases lnk o x y s with
  | none => rfl
  | some t => cases t <;> rfl
@[simp] theorem u_ite {c a b : Sm} : eIte c a b e s = (tst (c.e e s)).bd fun k s => if k then a.e e s else b.e e s := rfl
@[simp] theorem u_bi {f : Bi} {a : Sm} : eBi f a e s = opL (biP f) (a.a e s) := rfl
@[simp] theorem u_isi {ty : Str} {a : Sm} : eIsi ty a e s = op1 (fun x => blP (tyP ty x)) (a.e e s) := rfl
@[simp] theorem u_cal {f : List Vl → Sr → R Vl} {m : Bool} {a : Sm} : eCal f m a e s = (a.a e s).bd fun vs s => callW f m vs s := rfl
@[simp] theorem u_lzp {a : Sm} : eLzp a e s = opL lzpP (a.a e s) := rfl
@[simp] theorem u_lsm {a : Sm} : eLsm a e s = (a.a e s).bd lsmV := rfl
@[simp] theorem u_rpm {a b : Sm} : eRpm a b e s = (a.e e s).bd fun v s => (b.e e s).bd fun w s => rpmV v w s := rfl
@[simp] theorem lsmV_l {xs : List P} : lsmV [.p (.list xs)] s = .ok (.r s.length) (s ++ [.lp 0 xs]) := rfl
@[simp] theorem lsmV_t {xs : List P} : lsmV [.p (.tuple xs)] s = .ok (.r s.length) (s ++ [.lp 0 xs]) := rfl
@[simp] theorem u_lrg {a : Sm} : eLrg a e s = opL lrgP (a.a e s) := rfl
@[simp] theorem u_sb {b : Bool} {a : Sm} : eSb b a e s = op1 (sbP b) (a.e e s) := rfl
@[simp] theorem u_app {o x : Sm} : eApp o x e s = (o.e e s).bd fun o s => if isL o s = true then (x.e e s).bd fun v s => R.of ((appV o v s).map fun _ => Vl.p .none) ((appV o v s).getD s) else .no := rfl
@[simp] theorem u_met {f : Me} {o a : Sm} : eMet f o a e s = (o.e e s).bd fun o s => if isL o s = true then (a.a e s).bd fun vs s => meV f o vs s else .no := rfl
@[simp] theorem u_ipl {x : Sm} : iPl x e s = (x.e e s).bd fun v s => itOf v s := rfl
@[simp] theorem itOf_t {xs : List P} : itOf (.p (.tuple xs)) s = .ok (.inl (xs.map .p)) s := rfl
@[simp] theorem itOf_l {xs : List P} : itOf (.p (.list xs)) s = .ok (.inl (xs.map .p)) s := rfl
theorem itOf_r {n : Nat} (h : isDp s n = false) : itOf (.r n) s = .ok (.inr n) s := if_neg (by rw [h]; simp)
@[simp] theorem itOf_r0 {k : Nat} {xs : List P} : itOf (.r 0) (.lp k xs :: s) = .ok (.inr 0) (.lp k xs :: s) := itOf_r rfl
@[simp] theorem itOf_r1 {o : Ob} {k : Nat} {xs : List P} : itOf (.r 1) (o :: .lp k xs :: s) = .ok (.inr 1) (o :: .lp k xs :: s) := itOf_r rfl
@[simp] theorem u_irg {a : Sm} : iRg a e s = (a.a e s).bd fun vs s => R.of (((ddL vs s).bind rgP).map fun xs => .inl (xs.map .p)) s := rfl
@[simp] theorem u_ien {a : Sm} : iEn a e s = (a.a e s).bd fun vs s => R.of (enV vs) s := rfl
@[simp] theorem enV_t {xs : List P} : enV [.p (.tuple xs)] = some (.inl (enumP 0 xs)) := rfl
@[simp] theorem enV_l {xs : List P} : enV [.p (.list xs)] = some (.inl (enumP 0 xs)) := rfl
@[simp] theorem u_iez {a : Sm} : iEz a e s = (a.a e s).bd fun vs s => R.of (ezV vs) s := rfl
@[simp] theorem ezV_t {xs ys : List P} : ezV [.p (.tuple xs), .p (.tuple ys)] = some (.inl (enumP 0 (zpP xs ys))) := rfl
@[simp] theorem u_izp {a : Sm} : iZp a e s = (a.a e s).bd fun vs s => R.of (zpV vs) s := rfl
@[simp] theorem u_acons {a b : Sm} : aCons a b e s = (a.e e s).bd fun v s => (b.a e s).bd fun vs s => .ok (v :: vs) s := rfl
@[simp] theorem u_kscons {a b : Sm} {vs : List Vl} : ksCons a b (v :: vs) e s = (a.k v e s).th fun e s => b.ks vs e s := rfl
@[simp] theorem u_ksnil : ksNil [] e s = .nx e s := rfl
@[simp] theorem u_bocons {a b : Sm} {k : Bool} : boCons a b k e s = if b.z then a.e e s else orP (a.e e s) (fun s => b.bo k e s) k := rfl
@[simp] theorem u_as {t x : Sm} : sAs t x e s = (x.e e s).bx fun v s => t.k v e s := rfl
@[simp] theorem u_pa {ts es : Sm} : sPa ts es e s = (es.a e s).bx fun vs s => ts.ks vs e s := rfl
@[simp] theorem u_ag {o : Operator} {t x : Sm} : sAg o t x e s = (t.e e s).bx fun v s => (x.e e s).bx fun w s => (R.of (agV o v w s) s).bx fun c s => t.k (.p c) e s := by
  simp only [sAg]
  congr 1; funext v s; congr 1; funext w s
  cases agV o v w s <;> rfl
@[simp] theorem agV_p {o : Operator} : agV o (.p x) (.p y) s = augP o x y := rfl
@[simp] theorem aug_add : augP .Add (.int i) (.int j) = some (.int (i + j)) := rfl
@[simp] theorem aug_sub : augP .Sub (.int i) (.int j) = some (.int (i - j)) := rfl
@[simp] theorem u_if {c a b : Sm} : sIf c a b e s = (tst (c.e e s)).bx fun k s => if k then a.s e s else b.s e s := rfl
@[simp] theorem u_re {x : Sm} : sRe x e s = (x.e e s).bx fun v s => .rt v s := rfl
@[simp] theorem u_ex {x : Sm} : sEx x e s = (x.e e s).bx fun _ s => .nx e s := rfl
@[simp] theorem u_cp {m : Bool} {elt tg it cond : Sm} {own : List Nat} : eCp m elt tg it cond own e s = (it.i e s).bd fun w s => (cpAll tg cond elt (wipeE e own) w s).bd fun xs s => mkLst m xs s := rfl
@[simp] theorem cpAll_l {tg cond elt : Sm} {vs : List Vl} (h : vs.length ≤ lim) : cpAll tg cond elt e (.inl vs) s = cpL tg.k (cnd cond) elt.e e vs s := if_pos h
@[simp] theorem cpAll_r {tg cond elt : Sm} {n : Nat} : cpAll tg cond elt e (.inr n) s = cpR tg.k (cnd cond) elt.e n e bigN 0 s := rfl
@[simp] theorem u_fo {t it b : Sm} : sFo t it b e s = (it.i e s).bx fun w s => match w with
  | .inl vs => forL t.k b.s vs e s
  | .inr n => forR t.k b.s n bigN 0 e s := rfl
theorem at_nat {α : Type} {xs : List α} {n : Nat} (h : n < xs.length) : L2.atI xs (n : Int) = some xs[n] := by
  have e : L2.ixN xs.length (n : Int) = some n := by
    unfold L2.ixN
    rw [if_pos (by omega), if_pos (by omega), Int.toNat_natCast]
  simp [L2.atI, e, h]
@[simp] theorem at_0 {α : Type} {x : α} {r : List α} : L2.atI (x :: r) 0 = some x := at_nat (n := 0) (by simp)
@[simp] theorem at_1 {α : Type} {x y : α} {r : List α} : L2.atI (x :: y :: r) 1 = some y := at_nat (xs := x :: y :: r) (n := 1) (by simp)
@[simp] theorem at_2 {α : Type} {x y z : α} {r : List α} : L2.atI (x :: y :: z :: r) 2 = some z := at_nat (xs := x :: y :: z :: r) (n := 2) (by simp)
theorem sh_i : sh (.int i) = true := by
  unfold sh SeqAt.shaped
  simp [PyData.canLay0, PyData.depth]
theorem sh_tup {ns : List Int} : sh (.tuple (ns.map .int)) = true := by
  have h1 : PyData.canLayAll0 (ns.map .int) = true := by
    induction ns with
    | nil => rfl
    | cons n r ih => simp [PyData.canLayAll0, PyData.canLay0, ih]
  have h2 : PyData.depthAll (ns.map .int) ≤ 1 := by
    induction ns with
    | nil => simp [PyData.depthAll]
    | cons n r ih => 
      have := ih (by
        simp only [List.map_cons, PyData.canLayAll0, Bool.and_eq_true] at h1
        exact h1.2)
      simp only [List.map_cons, PyData.depthAll, PyData.depth]
      omega
  unfold sh SeqAt.shaped
  simp [PyData.canLay0, PyData.depth, h1]
  omega
theorem any_eqv {ns : List Int} : ((ns.map PyData.int).any fun y => PyData.eqv y (.int i)) = decide (i ∈ ns) := by
  induction ns with
  | nil => rfl
  | cons n r ih =>
    rw [List.map_cons, List.any_cons, ih]
    have : PyData.eqv (.int n) (.int i) = decide (n = i) := by
      simp only [PyData.eqv]
      by_cases h : n = i <;> simp [h]
    rw [this, ← Bool.decide_or]
    congr 1
    rw [List.mem_cons]
    exact propext ⟨fun h => h.imp Eq.symm id, fun h => h.imp Eq.symm id⟩
theorem in_tup {ns : List Int} : cmpP .In (.int i) (.tuple (ns.map .int)) = some (decide (i ∈ ns)) := by
  show (if (sh _ && sh _) = true then some (List.any _ _) else none) = _
  rw [sh_i, sh_tup, any_eqv]
  rfl
theorem notin_tup {ns : List Int} : cmpP .NotIn (.int i) (.tuple (ns.map .int)) = some (!decide (i ∈ ns)) := by
  show (if (sh _ && sh _) = true then some (!(List.any _ _)) else none) = _
  rw [sh_i, sh_tup, any_eqv]
  rfl
theorem bools_mapF {α : Type} {g : α → Bool} {l : List α} : bools? (l.map fun x => .bool (g x)) = some (l.map g) := by
  induction l with
  | nil => rfl
  | cons b r ih => simp [bools?, ih]
@[simp] theorem bi_allF {α : Type} {g : α → Bool} {l : List α} : biP .all [.list (l.map fun x => .bool (g x))] = some (.bool (l.all g)) := by
  simp [biP, bools_mapF]
@[simp] theorem bi_anyF {α : Type} {g : α → Bool} {l : List α} : biP .any [.list (l.map fun x => .bool (g x))] = some (.bool (l.any g)) := by
  simp [biP, bools_mapF]
@[simp] theorem cnd_nil : cnd (sem gl F .nil) e s = .ok true s := rfl
/-- a call with plain arguments alone -/
theorem callW_p {f : List Vl → Sr → R Vl} {m : Bool} {xs : List P} {r : P} {l : Sr} (h : f (xs.map .p) [] = .ok (.p r) l) : callW f m (xs.map .p) s = .ok (.p r) s := by
  have e1 : refs (xs.map Vl.p) = [] := by
    induction xs with
    | nil => rfl
    | cons x xs ih => simp [refs]; exact (by
        clear h ih
        induction xs with
        | nil => rfl
        | cons x xs ih => simp [refs, ih])
  have e2 : ∀ l : List Nat, inArgs l (xs.map Vl.p) = xs.map .p := fun l => by
    clear h e1
    induction xs with
    | nil => rfl
    | cons x xs ih => simp [inArgs, ih]
  simp [callW, e1, e2, h, back]
theorem callW_p1 {f : List Vl → Sr → R Vl} {m : Bool} {r : P} {l : Sr} (h : f [.p x] [] = .ok (.p r) l) : callW f m [.p x] s = .ok (.p r) s := callW_p (xs := [x]) h
theorem callW_p2 {f : List Vl → Sr → R Vl} {m : Bool} {r : P} {l : Sr} (h : f [.p x, .p y] [] = .ok (.p r) l) : callW f m [.p x, .p y] s = .ok (.p r) s := callW_p (xs := [x, y]) h
theorem callW_p3 {f : List Vl → Sr → R Vl} {m : Bool} {r : P} {l : Sr} (h : f [.p x, .p y, .p z] [] = .ok (.p r) l) : callW f m [.p x, .p y, .p z] s = .ok (.p r) s := callW_p (xs := [x, y, z]) h
theorem callK_at {gl : List P} {ds : List Df} {k f : Nat} {d : Df} {vs : List Vl} (h : ds[f]? = some d) (hn : vs.length = d.n) : callK gl ds (k + 1) f vs s = endX ((sem gl (callK gl ds k) d.b).s (vs.map some ++ List.replicate (d.m - d.n) none) s) := by
  show (match ds[f]? with | some d => runD d (sem gl (callK gl ds k) d.b).s vs s | none => .no) = _
  rw [h]
  show runD d _ vs s = _
  unfold runD
  rw [if_pos hn]
/-- a loop's turns by an invariant: P i is what holds ahead of the i-th -/
theorem forL_inv {tg : Vl → En → Sr → X} {b : En → Sr → X} (I : Nat → En → Sr → Prop) : ∀ (vs : List Vl) (k : Nat) (e : En) (s : Sr), I k e s →
    (∀ j v e s, vs[j]? = some v → I (k + j) e s → ∃ e1 s1, tg v e s = .nx e1 s1 ∧ ((∃ e2 s2, (b e1 s1 = .nx e2 s2 ∨ b e1 s1 = .ct e2 s2) ∧ I (k + j + 1) e2 s2))) → ∃ e' s', forL tg b vs e s = .nx e' s' ∧ I (k + vs.length) e' s'
  | [], k, e, s, h, _ => ⟨e, s, rfl, h⟩
  | v :: vs, k, e, s, h, st => by
    obtain ⟨e1, s1, h1, e2, s2, h2, h3⟩ := st 0 v e s rfl h
    obtain ⟨e', s', h4, h5⟩ := forL_inv I vs (k + 1) e2 s2 h3 fun j w e s hw hi => by
      have := st (j + 1) w e s hw (by rw [show k + (j + 1) = k + 1 + j by omega]; exact hi)
      rw [show k + (j + 1) + 1 = k + 1 + j + 1 by omega] at this
      exact this
    refine ⟨e', s', ?_, by rw [List.length_cons, show k + (vs.length + 1) = k + 1 + vs.length by omega]; exact h5⟩
    simp only [forL, h1]
    rcases h2 with h2 | h2 <;> rw [h2] <;> exact h4
end
end Mi
end
section
set_option Elab.async false
set_option linter.all false
set_option maxRecDepth 100000
/-! E2: sorted and max of ints and of pairs of ints; comprehensions. -/
namespace Mi
open PySem
abbrev PI2 := Int × Int
def pr (p : PI2) : P := .tuple [.int p.1, .int p.2]
def lt2 (p q : PI2) : Bool := if p.1 = q.1 then decide (p.2 < q.2) else decide (p.1 < q.1)
def le2 (p q : PI2) : Bool := !lt2 q p
theorem le2_iff {p q : PI2} : le2 p q = true ↔ p.1 < q.1 ∨ (p.1 = q.1 ∧ p.2 ≤ q.2) := by
  unfold le2 lt2
  split <;> simp <;> omega
theorem le2_tr (a b c : PI2) (h : le2 a b = true) (h' : le2 b c = true) : le2 a c = true := by
  rw [le2_iff] at *
  omega
theorem le2_tot (a b : PI2) : (le2 a b || le2 b a) = true := by
  rw [Bool.or_eq_true, le2_iff, le2_iff]
  omega
theorem lt_pr (p q : PI2) : W.dataLt (pr p) (pr q) = lt2 p q := (W.DatumOrd.lt_eq p q : _)
theorem le_pr (p q : PI2) : W.dataLe false id (pr p) (pr q) = le2 p q := by
  show (!(W.dataLt (pr q) (pr p))) = _
  rw [lt_pr]
  rfl
theorem al_pr (p q : PI2) : W.alike (pr p) (pr q) = true := W.DatumOrd.alike p q
theorem le_int (a b : Int) : W.dataLe false id (PyData.int a) (PyData.int b) = decide (a ≤ b) := by
  show (!(W.dataLt (.int b) (.int a))) = _
  rw [show W.dataLt (.int b) (.int a) = decide (b < a) from W.DatumOrd.lt_eq b a]
  by_cases h : b < a <;> simp [h] <;> omega
theorem dep_pr (p : PI2) : (pr p).depth ≤ 50 := by
  unfold pr
  simp only [PyData.depth, PyData.depthAll]
  omega
theorem sort_pr (l : List PI2) : sortP (l.map pr) = (l.mergeSort le2).map pr := by
  unfold sortP
  exact (List.map_mergeSort (r := le2) (s := W.dataLe false (id : P → P)) (f := pr) (l := l) fun a _ b _ => (le_pr a b).symm).symm
theorem ok_pr (l : List PI2) : okSort (l.map pr) = true := by
  unfold okSort
  rw [Bool.and_eq_true, Bool.and_eq_true, Bool.or_eq_true]
  refine ⟨⟨?_, .inl ?_⟩, ?_⟩
  · simp only [List.all_map, List.all_eq_true, Function.comp]
    exact fun a _ b _ => al_pr a b
  · simp only [List.all_map, List.all_eq_true, Function.comp]
    exact fun a _ => rfl
  · simp only [List.all_map, List.all_eq_true, Function.comp, decide_eq_true_eq]
    exact fun a _ => dep_pr a
theorem bi_sort2 (l : List PI2) : biP .sorted [.list (l.map pr)] = some (.list ((l.mergeSort le2).map pr)) := by
  show (if okSort _ = true then some (PyData.list (sortP _)) else none) = _
  rw [if_pos (ok_pr l), sort_pr]
theorem sort_int (l : List Int) : sortP (l.map .int) = (l.mergeSort fun a b => decide (a ≤ b)).map .int := by
  unfold sortP
  exact (List.map_mergeSort (r := fun a b => decide (a ≤ b)) (s := W.dataLe false (id : P → P)) (f := PyData.int) (l := l) fun a _ b _ => (le_int a b).symm).symm
theorem ok_int (l : List Int) : okSort (l.map .int) = true := by
  unfold okSort
  rw [Bool.and_eq_true, Bool.and_eq_true, Bool.or_eq_true]
  refine ⟨⟨?_, .inr ?_⟩, ?_⟩
  · simp only [List.all_map, List.all_eq_true, Function.comp]
    exact fun a _ b _ => (W.DatumOrd.alike a b : _)
  · simp only [List.all_map, List.all_eq_true, Function.comp]
    exact fun a _ => rfl
  · simp only [List.all_map, List.all_eq_true, Function.comp, decide_eq_true_eq]
    intro a _
    simp only [PyData.depth]
    omega
theorem bi_sortI (l : List Int) : biP .sorted [.list (l.map .int)] = some (.list ((l.mergeSort fun a b => decide (a ≤ b)).map .int)) := by
  show (if okSort _ = true then some (PyData.list (sortP _)) else none) = _
  rw [if_pos (ok_int l), sort_int]
theorem bi_sortT (l : List Int) : biP .sorted [.tuple (l.map .int)] = some (.list ((l.mergeSort fun a b => decide (a ≤ b)).map .int)) := by
  show (if okSort _ = true then some (PyData.list (sortP _)) else none) = _
  rw [if_pos (ok_int l), sort_int]
def max2 (x : PI2) (xs : List PI2) : PI2 := xs.foldl (fun a y => if lt2 a y then y else a) x
theorem max_pr (x : PI2) (xs : List PI2) : W.maxD (pr x) (xs.map pr) = pr (max2 x xs) := by
  unfold W.maxD max2
  induction xs generalizing x with
  | nil => rfl
  | cons y ys ih =>
    rw [List.map_cons, List.foldl_cons, List.foldl_cons, ← ih, lt_pr]
    cases lt2 x y <;> rfl
theorem ints_pr (x : PI2) (xs : List PI2) : ints? ((x :: xs).map pr) = none := rfl
theorem okMx_pr (l : List PI2) : okMx (l.map pr) = true := by
  unfold okMx
  rw [Bool.and_eq_true]
  refine ⟨?_, ?_⟩
  · simp only [List.all_map, List.all_eq_true, Function.comp]
    exact fun a _ b _ => al_pr a b
  · simp only [List.all_map, List.all_eq_true, Function.comp]
    intro a _
    rw [Bool.and_eq_true]
    exact ⟨rfl, by simpa using dep_pr a⟩
theorem bi_maxPr (x : PI2) (xs : List PI2) : biP .max [.list ((x :: xs).map pr)] = some (pr (max2 x xs)) := by
  have h := okMx_pr (x :: xs)
  rw [List.map_cons] at h ⊢
  show (if okMx (pr x :: xs.map pr) = true then some (W.maxD (pr x) (xs.map pr)) else none) = _
  rw [if_pos h, max_pr]
/-- the greatest, once none is twice -/
theorem max2_mem (x : PI2) (xs : List PI2) : max2 x xs ∈ x :: xs ∧ ∀ y ∈ x :: xs, le2 y (max2 x xs) = true := by
  unfold max2
  induction xs generalizing x with
  | nil => simp [le2_iff]
  | cons y ys ih =>
    rw [List.foldl_cons]
    obtain ⟨h1, h2⟩ := ih (if lt2 x y = true then y else x)
    have hx : le2 x (if lt2 x y = true then y else x) = true := by
      cases q : lt2 x y with
      | false => rw [if_neg (by simp), le2_iff]; omega
      | true =>
        rw [if_pos rfl, le2_iff]
        unfold lt2 at q
        split at q <;> simp at q <;> omega
    have hy : le2 y (if lt2 x y = true then y else x) = true := by
      cases q : lt2 x y with
      | false => rw [if_neg (by simp)]; unfold le2; rw [q]; rfl
      | true => rw [if_pos rfl, le2_iff]; omega
    have h3 := h2 _ List.mem_cons_self
    refine ⟨?_, fun z hz => ?_⟩
    · rcases List.mem_cons.mp h1 with h | h
      · rw [h]; split <;> simp
      · simp [h]
    · rcases List.mem_cons.mp hz with rfl | hz
      · exact le2_tr _ _ _ hx h3
      · rcases List.mem_cons.mp hz with rfl | hz
        · exact le2_tr _ _ _ hy h3
        · exact h2 z (List.mem_cons_of_mem _ hz)
/-! ### comprehensions -/
section
variable {tg : Vl → En → Sr → X} {cond : En → Sr → R Bool} {elt : En → Sr → R Vl} {e : En} {s : Sr}
theorem cpL_fm (g : Vl → Option P) : ∀ (vs : List Vl), (∀ v ∈ vs, ∃ e', tg v e s = .nx e' s ∧ ((g v = none ∧ cond e' s = .ok false s) ∨ ∃ y, g v = some y ∧ cond e' s = .ok true s ∧ elt e' s = .ok (.p y) s)) →
    cpL tg cond elt e vs s = .ok (vs.filterMap g) s
  | [], _ => rfl
  | v :: vs, h => by
    obtain ⟨e', h1, h2⟩ := h v List.mem_cons_self
    have ih := cpL_fm g vs fun w hw => h w (List.mem_cons_of_mem _ hw)
    rcases h2 with ⟨g1, h2⟩ | ⟨y, g1, h2, h3⟩
    · simp only [cpL, h1, h2, ih, List.filterMap_cons, g1]
    · simp only [cpL, h1, h2, h3, toP_p, ih, List.filterMap_cons, g1]
theorem cpL_map (f : Vl → P) (vs : List Vl) (h : ∀ v ∈ vs, ∃ e', tg v e s = .nx e' s ∧ cond e' s = .ok true s ∧ elt e' s = .ok (.p (f v)) s) :
    cpL tg cond elt e vs s = .ok (vs.map f) s := by
  have := cpL_fm (tg := tg) (cond := cond) (elt := elt) (e := e) (s := s) (fun v => some (f v)) vs fun v hv => by
    obtain ⟨e', h1, h2, h3⟩ := h v hv
    exact ⟨e', h1, .inr ⟨_, rfl, h2, h3⟩⟩
  rw [this]
  congr 1
  induction vs with
  | nil => rfl
  | cons v vs ih => simp
/-- with a store that goes on -/
theorem cpL_st (I : Nat → Sr → Prop) (Q : P → Prop) : ∀ (vs : List Vl) (k : Nat) (s : Sr), I k s → (∀ j v s, vs[j]? = some v → I (k + j) s → ∃ e', tg v e s = .nx e' s ∧ cond e' s = .ok true s ∧ ∃ y s', elt e' s = .ok (.p y) s' ∧ Q y ∧ I (k + j + 1) s') →
    ∃ ys s', cpL tg cond elt e vs s = .ok ys s' ∧ ys.length = vs.length ∧ (∀ y ∈ ys, Q y) ∧ I (k + vs.length) s'
  | [], k, s, h, _ => ⟨[], s, rfl, rfl, by simp, h⟩
  | v :: vs, k, s, h, st => by
    obtain ⟨e', h1, h2, y, s1, h3, h4, h5⟩ := st 0 v s rfl h
    obtain ⟨ys, s', h6, h7, h8, h9⟩ := cpL_st I Q vs (k + 1) s1 h5 fun j w s hw hi => by
      have := st (j + 1) w s hw (by rw [show k + (j + 1) = k + 1 + j by omega]; exact hi)
      rw [show k + (j + 1) + 1 = k + 1 + j + 1 by omega] at this
      exact this
    refine ⟨y :: ys, s', by simp only [cpL, h1, h2, h3, toP_p, h6], by simp [h7], fun z hz => ?_, by rw [List.length_cons, show k + (vs.length + 1) = k + 1 + vs.length by omega]; exact h9⟩
    rcases List.mem_cons.mp hz with rfl | hz
    · exact h4
    · exact h8 z hz
end
theorem enumP_eq : ∀ (k : Nat) (xs : List P), enumP k xs = (xs.zipIdx k).map fun q => .p (.tuple [.int (q.2 : Nat), q.1])
  | _, [] => rfl
  | k, x :: xs => by simp [enumP, List.zipIdx_cons, enumP_eq (k + 1) xs]
/-! ### loops as steps -/
def runS {A S : Type} (step : S → A → S ⊕ X) : S → List A → S ⊕ X
  | σ, [] => .inl σ
  | σ, a :: as => match step σ a with
    | .inl σ' => runS step σ' as
    | .inr x => .inr x
/-- what a turn does -/
def Does {S : Type} (E : S → En) (Z : S → Sr) (x : X) : S ⊕ X → Prop
  | .inl σ => x = .nx (E σ) (Z σ) ∨ x = .ct (E σ) (Z σ)
  | .inr (.rt v s) => x = .rt v s
  | .inr (.nx e s) => x = .bk e s
  | _ => False
theorem forL_run {A S : Type} {tg : Vl → En → Sr → X} {b : En → Sr → X} (mk : A → Vl) (E : S → En) (Z : S → Sr) (step : S → A → S ⊕ X) (J : S → Prop) : ∀ (as : List A) (vs : List Vl) (e : En) (s : Sr) (σ : S), vs = as.map mk → e = E σ → s = Z σ → J σ →
    (∀ σ a, J σ → a ∈ as → (∃ e1 s1, tg (mk a) (E σ) (Z σ) = .nx e1 s1 ∧ Does E Z (b e1 s1) (step σ a)) ∧ ∀ σ', step σ a = .inl σ' → J σ') →
    forL tg b vs e s = match runS step σ as with
      | .inl σ' => .nx (E σ') (Z σ')
      | .inr x => x
  | [], _, _, _, σ, rfl, rfl, rfl, _, _ => rfl
  | a :: as, _, _, _, σ, rfl, rfl, rfl, hJ, h => by
    obtain ⟨⟨e1, s1, h1, h2⟩, h3⟩ := h σ a hJ List.mem_cons_self
    simp only [List.map_cons, forL, h1, runS]
    cases q : step σ a with
    | inl σ' =>
      rw [q] at h2
      have ih := forL_run (tg := tg) (b := b) mk E Z step J as _ _ _ σ' rfl rfl rfl (h3 σ' q) fun τ c hτ hc => h τ c hτ (List.mem_cons_of_mem _ hc)
      rcases h2 with h2 | h2 <;> rw [h2] <;> exact ih
    | inr x =>
      rw [q] at h2
      cases x with
      | rt v s => simp only [Does] at h2; rw [h2]
      | nx e s => simp only [Does] at h2; rw [h2]
      | _ => exact h2.elim
theorem forL_at {A S : Type} {tg : Vl → En → Sr → X} {b : En → Sr → X} (mk : A → Vl) (E : S → En) (Z : S → Sr) (step : S → A → S ⊕ X) (J : Nat → S → Prop) (as : List A) : ∀ (bs : List A) (n : Nat) (vs : List Vl) (e : En) (s : Sr) (σ : S), vs = bs.map mk → e = E σ → s = Z σ → J n σ → as.drop n = bs →
    (∀ i σ a, J i σ → as[i]? = some a → (∃ e1 s1, tg (mk a) (E σ) (Z σ) = .nx e1 s1 ∧ Does E Z (b e1 s1) (step σ a)) ∧ ∀ σ', step σ a = .inl σ' → J (i + 1) σ') →
    (∃ σ', runS step σ bs = .inl σ' ∧ forL tg b vs e s = .nx (E σ') (Z σ') ∧ J (n + bs.length) σ') ∨ ∃ x, runS step σ bs = .inr x ∧ forL tg b vs e s = x
  | [], n, _, _, _, σ, rfl, rfl, rfl, hJ, _, _ => .inl ⟨σ, rfl, rfl, hJ⟩
  | a :: bs, n, _, _, _, σ, rfl, rfl, rfl, hJ, hd, h => by
    have ha : as[n]? = some a := by
      have := congrArg (·[0]?) hd
      simpa using this
    have hd' : as.drop (n + 1) = bs := by
      have := congrArg (List.drop 1) hd
      simpa using this
    obtain ⟨⟨e1, s1, h1, h2⟩, h3⟩ := h n σ a hJ ha
    simp only [List.map_cons, forL, h1, runS]
    cases q : step σ a with
    | inl σ' =>
      rw [q] at h2
      have ih := forL_at (tg := tg) (b := b) mk E Z step J as bs (n + 1) _ _ _ σ' rfl rfl rfl (h3 σ' q) hd' h
      rw [show n + 1 + bs.length = n + (a :: bs).length by simp; omega] at ih
      rcases h2 with h2 | h2 <;> rw [h2] <;> exact ih
    | inr x =>
      rw [q] at h2
      refine .inr ⟨x, rfl, ?_⟩
      cases x with
      | rt v s => simp only [Does] at h2; rw [h2]
      | nx e s => simp only [Does] at h2; rw [h2]
      | _ => exact h2.elim
/-- a loop that nothing leaves: a fold -/
theorem forL_fold {A S : Type} {tg : Vl → En → Sr → X} {b : En → Sr → X} (mk : A → Vl) (E : S → En) (Z : S → Sr) (f : S → A → S) (J : Nat → S → Prop) (as : List A) {vs : List Vl} {e : En} {s : Sr} (σ : S) (h1 : vs = as.map mk) (h2 : e = E σ) (h3 : s = Z σ) (h4 : J 0 σ)
    (h : ∀ i σ a, J i σ → as[i]? = some a → (∃ e1 s1, tg (mk a) (E σ) (Z σ) = .nx e1 s1 ∧ (b e1 s1 = .nx (E (f σ a)) (Z (f σ a)) ∨ b e1 s1 = .ct (E (f σ a)) (Z (f σ a)))) ∧ J (i + 1) (f σ a)) :
    forL tg b vs e s = .nx (E (as.foldl f σ)) (Z (as.foldl f σ)) ∧ J as.length (as.foldl f σ) := by
  have run : ∀ (bs : List A) (σ : S), runS (fun σ a => .inl (f σ a)) σ bs = .inl (bs.foldl f σ) := fun bs => by
    induction bs with
    | nil => intro σ; rfl
    | cons b bs ih => intro σ; exact ih _
  have := forL_at (tg := tg) (b := b) mk E Z (fun σ a => .inl (f σ a)) J as as 0 vs e s σ h1 h2 h3 h4 rfl fun i σ a hJ ha => by
    obtain ⟨q1, q2⟩ := h i σ a hJ ha
    exact ⟨q1, fun σ' e => by cases e; exact q2⟩
  rw [run] at this
  rcases this with ⟨σ', e1, e2, e3⟩ | ⟨x, e1, _⟩
  · cases e1
    rw [Nat.zero_add] at e3
    exact ⟨e2, e3⟩
  · cases e1
section
variable {tg : Vl → En → Sr → X} {cond : En → Sr → R Bool} {elt : En → Sr → R Vl} {e : En} {s : Sr}
theorem cpR_go (f : P → P) {n z : Nat} {xs : List P} (hx : s[n]? = some (.lp z xs)) (h : ∀ x ∈ xs, ∃ e', tg (.p x) e s = .nx e' s ∧ cond e' s = .ok true s ∧ elt e' s = .ok (.p (f x)) s) : ∀ (fuel i : Nat), xs.length < fuel + i →
    cpR tg cond elt n e fuel i s = .ok ((xs.drop i).map f) s ∨ fuel = 0
  | 0, i, _ => .inr rfl
  | fuel + 1, i, hf => by
    refine .inl ?_
    unfold cpR
    simp only [hx]
    by_cases hi : i < xs.length
    · obtain ⟨e', h1, h2, h3⟩ := h xs[i] (List.getElem_mem hi)
      have e1 : xs[i]? = some xs[i] := List.getElem?_eq_getElem hi
      rcases cpR_go f hx h fuel (i + 1) (by omega) with ih | rfl
      · simp only [e1, h1, h2, h3, toP_p, ih]
        rw [List.drop_eq_getElem_cons hi]
        rfl
      · omega
    · have e1 : xs[i]? = none := List.getElem?_eq_none (by omega)
      simp only [e1]
      rw [List.drop_of_length_le (by omega)]
      rfl
theorem cpR_map (f : P → P) {n z : Nat} {xs : List P} (hx : s[n]? = some (.lp z xs)) (hl : xs.length < bigN) (h : ∀ x ∈ xs, ∃ e', tg (.p x) e s = .nx e' s ∧ cond e' s = .ok true s ∧ elt e' s = .ok (.p (f x)) s) :
    cpR tg cond elt n e bigN 0 s = .ok (xs.map f) s := by
  rcases cpR_go f hx h bigN 0 (by omega) with h | h
  · simpa using h
  · cases h
end
theorem app_lp {n : Nat} {xs : List P} {x : P} {s : Sr} (hx : s[n]? = some (.lp 0 xs)) (hl : xs.length < lim) : appV (.r n) (.p x) s = some (s.set n (.lp 0 (xs ++ [x]))) := by
  simp [appV, hx, hl]
theorem set_lp {n : Nat} {xs : List P} {i : Int} {j : Nat} {x : P} {s : Sr} (hx : s[n]? = some (.lp 0 xs)) (hj : L2.ixN xs.length i = some j) : setIx (.r n) (.p (.int i)) (.p x) s = some (s.set n (.lp 0 (xs.set j x))) := by
  simp [setIx, hx, hj]
/-! ### slices -/
@[simp] theorem u_sl {a lo hi : Sm} {e : En} {s : Sr} : eSl a lo hi e s = (a.e e s).bd fun o s => (eOpt lo e s).bd fun l s => (eOpt hi e s).bd fun h s => R.of (((dd o s).bind fun x => slP x l h).map .p) s := rfl
@[simp] theorem opt_nil {gl : List P} {F : Nat → List Vl → Sr → R Vl} {e : En} {s : Sr} : eOpt (sem gl F .nil) e s = .ok none s := rfl
@[simp] theorem opt_pl {gl : List P} {F : Nat → List Vl → Sr → R Vl} {x : T} {e : En} {s : Sr} : eOpt (sem gl F (.pl x)) e s = oneInt ((sem gl F x).e e s) := rfl
@[simp] theorem oneInt_ok {i : Int} {s : Sr} : oneInt (.ok (.p (.int i)) s) = .ok (some i) s := rfl
@[simp] theorem slP_l {xs : List P} {l h : Option Int} : slP (.list xs) l h = some (.list (cut xs l h)) := rfl
@[simp] theorem slP_t {xs : List P} {l h : Option Int} : slP (.tuple xs) l h = some (.tuple (cut xs l h)) := rfl
theorem six_nat (n d k : Nat) : HT.sIx n d (some (k : Int)) = min k n := by
  show (if (k : Int) < 0 then ((k : Int) + (n : Int)).toNat else min (k : Int).toNat n) = min k n
  rw [if_neg (by omega), Int.toNat_natCast]
theorem six_none (n d : Nat) : HT.sIx n d none = d := rfl
theorem cut_take {α : Type} (xs : List α) (n : Nat) : cut xs none (some (n : Int)) = xs.take n := by
  unfold cut
  rw [six_nat, six_none, List.drop_zero, Nat.sub_zero]
  by_cases h : n ≤ xs.length
  · rw [Nat.min_eq_left h]
  · rw [Nat.min_eq_right (by omega), List.take_length, List.take_of_length_le (by omega)]
theorem cut_drop {α : Type} (xs : List α) (n : Nat) : cut xs (some (n : Int)) none = xs.drop n := by
  unfold cut
  rw [six_nat, six_none]
  by_cases h : n ≤ xs.length
  · rw [Nat.min_eq_left h, List.take_of_length_le (by simp)]
  · rw [Nat.min_eq_right (by omega), List.drop_of_length_le (Nat.le_refl _), List.drop_of_length_le (by omega : xs.length ≤ n)]
    simp
end Mi
end
section
set_option linter.all false
set_option maxRecDepth 100000
set_option maxHeartbeats 1000000
/-! E3: draws' pots, calls with things of the store, while loops, written-out helps. -/
namespace Mi
open PySem
/-! the draws' pot -/
structure Pot where
  a : Int
  b : Int
  c : Int
def Pot.o (p : Pot) : Ob := .lp 0 [.int p.a, .int p.b, .int p.c]
structure Gp (N : Nat) (p : Pot) : Prop where
  a0 : 0 ≤ p.a
  b0 : 0 ≤ p.b
  b1 : p.b < 2305843009213693951
  c0 : 0 ≤ p.c
  c1 : p.c ≤ N
theorem muL_ok {i j : Int} (h : 0 ≤ i ∧ i < 18446744073709551616) : binP .Mult (.int i) (.int j) = some (.int (i * j)) := b_mul (.inl (by omega))
theorem mul_okr {i j : Int} (h : 0 ≤ j ∧ j < 18446744073709551616) : binP .Mult (.int i) (.int j) = some (.int (i * j)) := b_mul (.inr (.inl (by omega)))
theorem div_ok {i j : Int} (h : 0 < j ∧ j < 1073741824) : binP .FloorDiv (.int i) (.int j) = some (.int (i / j)) := b_div (.inl h)
theorem pow_ok {i j : Int} (h : 0 ≤ i ∧ i < 18446744073709551616) (hj : 0 ≤ j ∧ j ≤ 1000000) : binP .Pow (.int i) (.int j) = some (.int (i ^ j.toNat)) := b_pow ⟨hj.1, .inl ⟨by omega, hj.2⟩⟩
theorem ixV_r0 {i : Int} {k : Nat} {xs : List P} {s : Sr} : ixV (.r 0) (.p (.int i)) (.lp k xs :: s) = R.of ((L2.atI xs i).map .p) (.lp k xs :: s) := ixV_r rfl
/-! parts of trees -/
def sti : T → Nat → T
  | .cons a _, 0 => a
  | .cons _ b, n + 1 => sti b n
  | t, _ => t
def tlT : T → T
  | .cons _ b => b
  | t => t
def drT : T → Nat → T
  | t, 0 => t
  | .cons _ b, n + 1 => drT b n
  | t, _ => t
def thn : T → T
  | .iff _ a _ _ => a
  | t => t
def fob : T → T
  | .fo _ _ b _ => b
  | t => t
def fot : T → T
  | .fo t _ _ _ => t
  | t => t
def whb : T → T
  | .wh _ b _ => b
  | t => t
def whc : T → T
  | .wh c _ _ => c
  | t => t
def rex : T → T
  | .re x _ => x
  | t => t
def asx : T → T
  | .as _ x _ => x
  | t => t
theorem sq {t : T} (i : Nat) (gl : List P) (F : Nat → List Vl → Sr → R Vl) (e : En) (s : Sr) (h : drT t i = .cons (sti t i) (drT t (i + 1))) : (sem gl F (drT t i)).s e s = ((sem gl F (sti t i)).s e s).th (sem gl F (drT t (i + 1))).s := by
  rw [h]; rfl
/-! calls with things of the store -/
theorem callW_r1 {f : List Vl → Sr → R Vl} {m : Bool} {n : Nat} {o o' : Ob} {y : P} {s t : Sr} (h : s[n]? = some o) (ho : plainOb o = true) (hF : f [.r 0] [o] = .ok (.p y) (o' :: t)) : callW f m [.r n] s = .ok (.p y) (s.set n o') := by
  simp [callW, refs, inArgs, h, ho, hF, back]
theorem callW_r2 {f : List Vl → Sr → R Vl} {m : Bool} {n : Nat} {o o' : Ob} {x y : P} {s t : Sr} (h : s[n]? = some o) (ho : plainOb o = true) (hF : f [.r 0, .p x] [o] = .ok (.p y) (o' :: t)) : callW f m [.r n, .p x] s = .ok (.p y) (s.set n o') := by
  simp [callW, refs, inArgs, h, ho, hF, back]
/-- a new dict handed out -/
theorem callW_pd {f : List Vl → Sr → R Vl} {m : Bool} {xs : List P} {s t : Sr} {j : Nat} {kvs : List (P × P)} (hF : f (xs.map .p) [] = .ok (.r j) t) (hj : t[j]? = some (.dp 0 kvs)) : callW f m (xs.map .p) s = .ok (.r s.length) (s ++ [.dp 0 kvs]) := by
  have e1 : refs (xs.map Vl.p) = [] := by
    clear hF
    induction xs with
    | nil => rfl
    | cons x xs ih => simpa [refs] using ih
  have e2 : ∀ l : List Nat, inArgs l (xs.map Vl.p) = xs.map .p := fun l => by
    clear hF e1
    induction xs with
    | nil => rfl
    | cons x xs ih => simp [inArgs, ih]
  simp [callW, e1, e2, hF, hj, back]
theorem plain_o (p : Pot) : plainOb p.o = true := rfl
theorem Gp.le {N M : Nat} {p : Pot} (h : Gp N p) (hl : N ≤ M) : Gp M p := ⟨h.a0, h.b0, h.b1, h.c0, by have := h.c1; omega⟩
/-! ranges -/
theorem rng_eq : ∀ (n : Nat) (lo : Int), rng lo 1 n = (List.range n).map fun j => PyData.int (lo + (j : Nat))
  | 0, _ => rfl
  | n + 1, lo => by
    rw [rng, rng_eq n (lo + 1), List.range_succ_eq_map, List.map_cons, List.map_map]
    congr 1
    · simp
    · refine List.map_congr_left fun j _ => ?_
      show PyData.int _ = .int _
      congr 1
      push_cast
      omega
theorem rng_ln : ∀ (n : Nat) (lo : Int), (rng lo 1 n).length = n
  | 0, _ => rfl
  | n + 1, lo => by simp [rng, rng_ln n]
theorem rgP_1 (n : Nat) (h : n ≤ 1000000) : rgP [.int (n : Int)] = some (rng 0 1 n) := by
  simp [rgP]
  unfold Sm62; omega
theorem rgP_2 (a b : Int) (h : -1000000 ≤ a ∧ a ≤ 1000000000) (h2 : -1000000 ≤ b ∧ b ≤ 1000000000) : rgP [.int a, .int b] = some (rng a 1 (b - a).toNat) := by
  simp [rgP]
  unfold Sm62; omega
theorem lrgP_1 (n : Nat) (h : n ≤ 1000000) : lrgP [.int (n : Int)] = some (.list (rng 0 1 n)) := by
  simp [lrgP, rgP_1 n h, rng_ln]
  unfold lim; omega
/-! texts and truth values compared -/
theorem neb (a b : Bool) : cmpP .NotEq (.bool a) (.bool b) = some (a != b) := by
  have sb : ∀ c, sh (.bool c) = true := fun c => by
    unfold sh SeqAt.shaped
    simp [PyData.canLay0, PyData.depth]
  simp only [cmpP, sb, Bool.and_self, if_true]
  cases a <;> cases b <;> simp [PyData.eqv]
theorem addT {xs ys : List P} (h : xs.length + ys.length ≤ lim) : binP .Add (.tuple xs) (.tuple ys) = some (.tuple (xs ++ ys)) := if_pos h
theorem nats_int (js : List Nat) : js.map (fun j => PyData.int (j : Nat)) = (js.map fun j : Nat => (j : Int)).map .int := by simp [Function.comp_def]
@[simp] theorem mkTup_nil {s : Sr} : mkTup [] s = .ok (.p (.tuple [])) s := mkTup_ps (xs := []) (by decide)
/-! dicts -/
theorem key_i {i : Int} : key? (.p (.int i)) = some (.int i) := rfl
theorem dat_at {n z : Nat} {kvs : List (P × P)} {s : Sr} (h : s[n]? = some (.dp z kvs)) : dat (.r n) s = some kvs := by simp [dat, h]
theorem dat0_at {n : Nat} {kvs : List (P × P)} {s : Sr} (h : s[n]? = some (.dp 0 kvs)) : dat0 (.r n) s = true := by simp [dat0, h]
theorem dixV_at {n z : Nat} {kvs : List (P × P)} {s : Sr} {i : Int} (h : s[n]? = some (.dp z kvs)) : dixV (.r n) (.p (.int i)) s = dget kvs (.int i) := by simp [dixV, dat_at h, key_i]
theorem dinV_at {n z : Nat} {kvs : List (P × P)} {s : Sr} {i : Int} {b : Bool} (h : s[n]? = some (.dp z kvs)) : dinV b (.p (.int i)) (.r n) s = some ((dget kvs (.int i)).isSome != b) := by simp [dinV, dat_at h, key_i]
theorem dputV_at {n : Nat} {kvs : List (P × P)} {s : Sr} {i : Int} {x : P} (h : s[n]? = some (.dp 0 kvs)) (hl : kvs.length < lim) : dputV (.r n) (.p (.int i)) (.p x) s = some (s.set n (.dp 0 (dput kvs (.int i) x))) := by simp [dputV, key_i, h, hl]
theorem wkV_0 {b : Bool} {n : Nat} {kvs : List (P × P)} {s : Sr} (h : s[n]? = some (.dp 0 kvs)) : wkV b (.r n) s = .ok (.inl (wkL b kvs)) (s.set n (.dp 1 kvs)) := by simp [wkV, h]
theorem wkV_1 {b : Bool} {n k : Nat} {kvs : List (P × P)} {s : Sr} (h : s[n]? = some (.dp (k + 1) kvs)) : wkV b (.r n) s = .ok (.inl (wkL b kvs)) s := by simp [wkV, h]
/-- a dict with ints as keys -/
def dkv {α : Type} (f : α → P) (l : List (Int × α)) : List (P × P) := l.map fun q => (.int q.1, f q.2)
def lk {α : Type} (l : List (Int × α)) (k : Int) : Option α := (l.find? fun q => decide (q.1 = k)).map (·.2)
theorem dget_dkv {α : Type} {f : α → P} {l : List (Int × α)} {k : Int} : dget (dkv f l) (.int k) = (lk l k).map f := by
  unfold dget dkv lk
  induction l with
  | nil => rfl
  | cons q r ih =>
    rw [List.map_cons, List.find?_cons, List.find?_cons]
    by_cases h : q.1 = k
    · simp [dkEq, h]
    · simp only [dkEq, h, decide_false]
      exact ih
theorem dput_new {α : Type} {f : α → P} {l : List (Int × α)} {k : Int} {x : α} (h : lk l k = none) : dput (dkv f l) (.int k) (f x) = dkv f (l ++ [(k, x)]) := by
  unfold dput
  rw [dget_dkv, h]
  simp [dkv]
/-- setdefault -/
def sdl {α : Type} (l : List (Int × α)) (k : Int) (x : α) : List (Int × α) := match lk l k with
  | some _ => l
  | none => l ++ [(k, x)]
theorem sdV_at {α : Type} {f : α → P} {n : Nat} {l : List (Int × α)} {s : Sr} {k : Int} {x : α} (h : s[n]? = some (.dp 0 (dkv f l))) (hl : l.length < lim) : ∃ y, sdV (.r n) (.p (.int k)) (.p (f x)) s = .ok (.p y) (s.set n (.dp 0 (dkv f (sdl l k x)))) := by
  have hl' : (dkv f l).length < lim := by simpa [dkv] using hl
  have e1 : s.set n (.dp 0 (dkv f l)) = s := by
    have := List.getElem?_eq_some_iff.mp h
    obtain ⟨hn, e⟩ := this
    rw [← e]
    exact List.set_getElem_self hn
  unfold sdV sdl
  dsimp only
  rw [dputV_at h hl', dixV_at h, dget_dkv]
  cases q : lk l k with
  | none => exact ⟨f x, by simp only [Option.map_none, dput_new q]⟩
  | some y => exact ⟨f y, by simp only [Option.map_some, e1]⟩
theorem sdl_len {α : Type} (l : List (Int × α)) (k : Int) (x : α) : (sdl l k x).length ≤ l.length + 1 := by
  unfold sdl
  split <;> simp
/-! while -/
theorem whN_mono {c : En → Sr → R Bool} {b : En → Sr → X} : ∀ (n m : Nat) (e : En) (s : Sr), n ≤ m → whN c b n e s ≠ .no → whN c b m e s = whN c b n e s
  | 0, _, _, _, _, h => absurd rfl h
  | n + 1, 0, _, _, hl, _ => by omega
  | n + 1, m + 1, e, s, hl, h => by
    have ih := fun e s => whN_mono (c := c) (b := b) n m e s (by omega)
    unfold whN at h ⊢
    cases q : c e s with
    | ok t s1 =>
      rw [q] at h
      cases t with
      | false => rfl
      | true =>
        dsimp only at h ⊢
        cases q2 : b e s1 with
        | nx e2 s2 => rw [q2] at h; exact ih _ _ h
        | ct e2 s2 => rw [q2] at h; exact ih _ _ h
        | _ => rfl
    | ex => rfl
    | no => rfl
theorem whC_of {c : En → Sr → R Bool} {b : En → Sr → X} {n : Nat} {e : En} {s : Sr} (h : whN c b n e s ≠ .no) : whC c b e s = whN c b n e s := by
  have hx : ∃ n, whN c b n e s ≠ .no := ⟨n, h⟩
  unfold whC
  rw [dif_pos hx]
  have h2 := hx.choose_spec
  generalize hx.choose = m at h2
  by_cases q : n ≤ m
  · exact whN_mono n m e s q h
  · exact (whN_mono m n e s (by omega) h2).symm
/-- a while loop by a measure -/
theorem whC_run {S : Type} {c : En → Sr → R Bool} {b : En → Sr → X} (E : S → En) (Z : S → Sr) (t : S → Bool) (f : S → S) (J : S → Prop) (μ : S → Nat) (hc : ∀ σ, J σ → c (E σ) (Z σ) = .ok (t σ) (Z σ))
    (hb : ∀ σ, J σ → t σ = true → b (E σ) (Z σ) = .nx (E (f σ)) (Z (f σ)) ∧ J (f σ) ∧ μ (f σ) < μ σ) (σ : S) (h : J σ) : ∃ σ', whC c b (E σ) (Z σ) = .nx (E σ') (Z σ') ∧ J σ' ∧ t σ' = false := by
  have key : ∀ (n : Nat) (σ : S), μ σ < n → J σ → ∃ σ', whN c b n (E σ) (Z σ) = .nx (E σ') (Z σ') ∧ J σ' ∧ t σ' = false := by
    intro n
    induction n with
    | zero => intro σ h; omega
    | succ n ih =>
      intro σ hm hJ
      unfold whN
      rw [hc σ hJ]
      cases q : t σ with
      | false => exact ⟨σ, rfl, hJ, q⟩
      | true =>
        obtain ⟨h1, h2, h3⟩ := hb σ hJ q
        dsimp only
        rw [h1]
        exact ih (f σ) (by omega) h2
  obtain ⟨σ', h1, h2, h3⟩ := key (μ σ + 1) σ (by omega) h
  exact ⟨σ', by rw [whC_of (n := μ σ + 1) (by rw [h1]; simp), h1], h2, h3⟩
@[simp] theorem u_wh {c b : Sm} {e : En} {s : Sr} : sWh c b e s = whC (fun e s => tst (c.e e s)) b.s e s := rfl
def foi : T → T
  | .fo _ x _ _ => x
  | t => t
def ifc : T → T
  | .iff c _ _ _ => c
  | t => t
def els : T → T
  | .iff _ _ b _ => b
  | t => t
theorem fo_at {gl : List P} {F : Nat → List Vl → Sr → R Vl} {t : T} {e : En} {s s' : Sr} {vs : List Vl} (h : ∃ a b c d, t = .fo a b c d) (hi : (sem gl F (foi t)).i e s = .ok (.inl vs) s') : (sem gl F t).s e s = forL (sem gl F (fot t)).k (sem gl F (fob t)).s vs e s' := by
  obtain ⟨a, b, c, d, rfl⟩ := h
  simp only [foi] at hi
  simp only [s_fo_s, u_fo, hi, bx_ok, fot, fob]
theorem if_at {gl : List P} {F : Nat → List Vl → Sr → R Vl} {t : T} {e : En} {s s' : Sr} (h : ∃ a b c d, t = .iff a b c d) (hc : tst ((sem gl F (ifc t)).e e s) = .ok true s') : (sem gl F t).s e s = (sem gl F (thn t)).s e s' := by
  obtain ⟨a, b, c, d, rfl⟩ := h
  simp only [ifc] at hc
  simp [hc, thn]
theorem el_at {gl : List P} {F : Nat → List Vl → Sr → R Vl} {t : T} {e : En} {s s' : Sr} (h : ∃ a b c d, t = .iff a b c d) (hc : tst ((sem gl F (ifc t)).e e s) = .ok false s') : (sem gl F t).s e s = (sem gl F (els t)).s e s' := by
  obtain ⟨a, b, c, d, rfl⟩ := h
  simp only [ifc] at hc
  simp [hc, els]
theorem th_id (x : X) : x.th (fun e s => X.nx e s) = x := by cases x <;> rfl
theorem forL_ret {tg : Vl → En → Sr → X} {b : En → Sr → X} (I : Nat → En → Sr → Prop) (Q : Vl → Sr → Prop) : ∀ (vs : List Vl) (k : Nat) (e : En) (s : Sr), I k e s →
    (∀ j v e s, vs[j]? = some v → I (k + j) e s → ∃ e1 s1, tg v e s = .nx e1 s1 ∧ ((∃ e2 s2, b e1 s1 = .nx e2 s2 ∧ I (k + j + 1) e2 s2) ∨ ∃ w s2, b e1 s1 = .rt w s2 ∧ Q w s2)) →
    (∃ e' s', forL tg b vs e s = .nx e' s' ∧ I (k + vs.length) e' s') ∨ ∃ w s', forL tg b vs e s = .rt w s' ∧ Q w s'
  | [], k, e, s, h, _ => .inl ⟨e, s, rfl, h⟩
  | v :: vs, k, e, s, h, st => by
    obtain ⟨e1, s1, h1, h2⟩ := st 0 v e s rfl h
    rcases h2 with ⟨e2, s2, h2, h3⟩ | ⟨w, s2, h2, h3⟩
    · have := forL_ret I Q vs (k + 1) e2 s2 h3 fun j w e s hw hi => by
        have := st (j + 1) w e s hw (by rw [show k + (j + 1) = k + 1 + j by omega]; exact hi)
        rw [show k + (j + 1) + 1 = k + 1 + j + 1 by omega] at this
        exact this
      rw [show k + 1 + vs.length = k + (v :: vs).length by simp; omega] at this
      simp only [forL, h1, h2]
      exact this
    · exact .inr ⟨w, s2, by simp only [forL, h1, h2], h3⟩
end Mi
end
section
set_option linter.all false
set_option maxRecDepth 100000
set_option maxHeartbeats 1000000
/-! E4: comprehensions of two clauses, dict comprehensions, puts. -/
namespace Mi
open PySem
section
variable {tg tg1 : Vl → En → Sr → X} {cond cond1 : En → Sr → R Bool} {elt kx vx : En → Sr → R Vl} {it1 : En → Sr → R (List Vl ⊕ Nat)} {own1 : List Nat} {e : En} {s : Sr}
theorem cpK_fm (g : Vl → Option P) {rest : Sr → R (List P)} {ys : List P} {s2 : Sr} (hr : rest s = .ok ys s2) : ∀ ws : List Vl, (∀ v ∈ ws, ∃ e', tg v e s = .nx e' s ∧ ((g v = none ∧ cond e' s = .ok false s) ∨ ∃ y, g v = some y ∧ cond e' s = .ok true s ∧ elt e' s = .ok (.p y) s)) →
    cpK tg cond elt e ws rest s = .ok (ws.filterMap g ++ ys) s2
  | [], _ => hr
  | v :: ws, h => by
    have ih := cpK_fm g hr ws fun w hw => h w (List.mem_cons_of_mem _ hw)
    obtain ⟨e', h1, h2⟩ := h v List.mem_cons_self
    rcases h2 with ⟨g1, h2⟩ | ⟨y, g1, h2, h3⟩
    · simp only [cpK, cpT, h1, h2, ih, List.filterMap_cons, g1]
    · simp only [cpK, cpT, h1, h2, h3, toP_p, ih, List.filterMap_cons, g1, List.cons_append]
theorem cp2L_fm (ws : Vl → List Vl) (g : Vl → Vl → Option P) : ∀ vs : List Vl, (∀ v ∈ vs, ∃ e1, tg v e s = .nx e1 s ∧ cond e1 s = .ok true s ∧ it1 e1 s = .ok (.inl (ws v)) s ∧ ∀ w ∈ ws v, ∃ e', tg1 w (wipeE e1 own1) s = .nx e' s ∧ ((g v w = none ∧ cond1 e' s = .ok false s) ∨ ∃ y, g v w = some y ∧ cond1 e' s = .ok true s ∧ elt e' s = .ok (.p y) s)) →
    cp2L tg cond it1 tg1 cond1 elt own1 e vs s = .ok (vs.flatMap fun v => (ws v).filterMap (g v)) s
  | [], _ => rfl
  | v :: vs, h => by
    have ih := cp2L_fm ws g vs fun w hw => h w (List.mem_cons_of_mem _ hw)
    obtain ⟨e1, h1, h2, h3, h4⟩ := h v List.mem_cons_self
    simp only [cp2L, cp2T, h1, h2, h3, List.flatMap_cons]
    exact cpK_fm (g v) ih (ws v) h4
theorem fm_some {α β : Type} (f : α → β) (l : List α) : l.filterMap (fun w => some (f w)) = l.map f := by
  induction l with
  | nil => rfl
  | cons x r ih => simp
theorem cp2L_map (ws : Vl → List Vl) (f : Vl → Vl → P) (vs : List Vl) (h : ∀ v ∈ vs, ∃ e1, tg v e s = .nx e1 s ∧ cond e1 s = .ok true s ∧ it1 e1 s = .ok (.inl (ws v)) s ∧ ∀ w ∈ ws v, ∃ e', tg1 w (wipeE e1 own1) s = .nx e' s ∧ cond1 e' s = .ok true s ∧ elt e' s = .ok (.p (f v w)) s) :
    cp2L tg cond it1 tg1 cond1 elt own1 e vs s = .ok (vs.flatMap fun v => (ws v).map (f v)) s := by
  have q := cp2L_fm (tg := tg) (cond := cond) (it1 := it1) (tg1 := tg1) (cond1 := cond1) (elt := elt) (own1 := own1) (e := e) (s := s) ws (fun v w => some (f v w)) vs fun v hv => by
    obtain ⟨e1, h1, h2, h3, h4⟩ := h v hv
    refine ⟨e1, h1, h2, h3, fun w hw => ?_⟩
    obtain ⟨e', h5, h6, h7⟩ := h4 w hw
    exact ⟨e', h5, .inr ⟨_, rfl, h6, h7⟩⟩
  rw [q]
  simp only [fm_some]
theorem dput_len (a : List (P × P)) (k v : P) : (dput a k v).length ≤ a.length + 1 := by
  unfold dput
  split <;> simp
theorem dcK_fold (kf vf : Vl → P) {rest : List (P × P) → Sr → R (List (P × P))} : ∀ (ws : List Vl) (acc : List (P × P)), (∀ v ∈ ws, ∃ e', tg v e s = .nx e' s ∧ cond e' s = .ok true s ∧ ∃ k', kx e' s = .ok k' s ∧ key? k' = some (kf v) ∧ vx e' s = .ok (.p (vf v)) s) → acc.length + ws.length ≤ lim →
    dcK tg cond kx vx e ws rest acc s = rest (ws.foldl (fun a w => dput a (kf w) (vf w)) acc) s
  | [], acc, _, _ => rfl
  | v :: ws, acc, h, hl => by
    have dl := dput_len acc (kf v) (vf v)
    rw [List.length_cons] at hl
    have ih := dcK_fold kf vf (rest := rest) ws (dput acc (kf v) (vf v)) (fun w hw => h w (List.mem_cons_of_mem _ hw)) (by omega)
    obtain ⟨e', h1, h2, k', h3, h4, h5⟩ := h v List.mem_cons_self
    have lt : acc.length < lim := by omega
    simp only [dcK, dcT, h1, h2, h3, h4, h5, lt, if_true, ih, List.foldl_cons]
theorem dc2L_fold (ws : Vl → List Vl) (kf vf : Vl → P) : ∀ (vs : List Vl) (acc : List (P × P)), (∀ v ∈ vs, ∃ e1, tg v e s = .nx e1 s ∧ cond e1 s = .ok true s ∧ it1 e1 s = .ok (.inl (ws v)) s ∧ ∀ w ∈ ws v, ∃ e', tg1 w (wipeE e1 own1) s = .nx e' s ∧ cond1 e' s = .ok true s ∧ ∃ k', kx e' s = .ok k' s ∧ key? k' = some (kf w) ∧ vx e' s = .ok (.p (vf w)) s) →
    acc.length + (vs.flatMap ws).length ≤ lim → dc2L tg cond it1 tg1 cond1 kx vx own1 e vs acc s = .ok ((vs.flatMap ws).foldl (fun a w => dput a (kf w) (vf w)) acc) s
  | [], acc, _, _ => rfl
  | v :: vs, acc, h, hl => by
    rw [List.flatMap_cons, List.length_append] at hl
    obtain ⟨e1, h1, h2, h3, h4⟩ := h v List.mem_cons_self
    have fl : ∀ (l : List Vl) (a : List (P × P)), (l.foldl (fun a w => dput a (kf w) (vf w)) a).length ≤ a.length + l.length := by
      intro l
      induction l with
      | nil => intro a; exact Nat.le_refl _
      | cons x r ih =>
        intro a
        have := ih (dput a (kf x) (vf x))
        have := dput_len a (kf x) (vf x)
        rw [List.foldl_cons, List.length_cons]
        omega
    have := fl (ws v) acc
    have ih := dc2L_fold ws kf vf vs ((ws v).foldl (fun a w => dput a (kf w) (vf w)) acc) (fun w hw => h w (List.mem_cons_of_mem _ hw)) (by omega)
    simp only [dc2L, cp2T, h1, h2, h3, List.flatMap_cons, List.foldl_append]
    rw [dcK_fold kf vf (ws v) acc h4 (by omega), ih]
theorem dcL_fold (kf vf : Vl → P) : ∀ (ws : List Vl) (acc : List (P × P)), (∀ v ∈ ws, ∃ e', tg v e s = .nx e' s ∧ cond e' s = .ok true s ∧ ∃ k', kx e' s = .ok k' s ∧ key? k' = some (kf v) ∧ vx e' s = .ok (.p (vf v)) s) → acc.length + ws.length ≤ lim →
    dcL tg cond kx vx e ws acc s = .ok (ws.foldl (fun a w => dput a (kf w) (vf w)) acc) s
  | [], acc, _, _ => rfl
  | v :: ws, acc, h, hl => by
    have dl := dput_len acc (kf v) (vf v)
    rw [List.length_cons] at hl
    have ih := dcL_fold kf vf ws (dput acc (kf v) (vf v)) (fun w hw => h w (List.mem_cons_of_mem _ hw)) (by omega)
    obtain ⟨e', h1, h2, k', h3, h4, h5⟩ := h v List.mem_cons_self
    have lt : acc.length < lim := by omega
    simp only [dcL, h1, h2, h3, h4, h5, lt, if_true, ih, List.foldl_cons]
end
/-- an int's entry, put -/
def plk {α : Type} (l : List (Int × α)) (k : Int) (x : α) : List (Int × α) := if (lk l k).isSome then l.map fun q => if q.1 = k then (q.1, x) else q else l ++ [(k, x)]
theorem dput_dkv {α : Type} {f : α → P} {l : List (Int × α)} {k : Int} {x : α} : dput (dkv f l) (.int k) (f x) = dkv f (plk l k x) := by
  unfold dput plk
  rw [dget_dkv]
  cases q : lk l k with
  | none => simp [dkv]
  | some y =>
    simp only [Option.map_some, Option.isSome_some, if_true, dkv, List.map_map]
    refine List.map_congr_left fun q _ => ?_
    simp only [Function.comp_apply, dkEq]
    by_cases h : q.1 = k <;> simp [h]
theorem lk_plk {α : Type} {l : List (Int × α)} {k : Int} {x : α} {j : Int} : lk (plk l k x) j = if j = k then some x else lk l j := by
  have e1 : ∀ l : List (Int × α), lk (l ++ [(k, x)]) j = (lk l j).or (if j = k then some x else none) := fun l => by
    unfold lk
    rw [List.find?_append]
    cases q : l.find? fun q => decide (q.1 = j) with
    | some y => rfl
    | none =>
      by_cases h : j = k
      · subst h; simp
      · have : ¬ k = j := fun e => h e.symm
        simp [h, this]
  unfold plk
  cases q : lk l k with
  | none =>
    rw [if_neg (by simp), e1]
    by_cases h : j = k
    · subst h; rw [q]; simp
    · simp [h]
  | some y =>
    rw [if_pos (by simp)]
    unfold lk at q ⊢
    induction l with
    | nil => simp at q
    | cons a r ih =>
      rw [List.map_cons, List.find?_cons, List.find?_cons]
      rw [List.find?_cons] at q
      by_cases h : a.1 = k
      · subst h
        by_cases hj : j = a.1
        · subst hj; simp
        · have : ¬ a.1 = j := fun e => hj e.symm
          simp only [if_true, this, decide_false, hj, if_false]
          congr 1
          clear ih q
          induction r with
          | nil => rfl
          | cons b r ih =>
            rw [List.map_cons, List.find?_cons, List.find?_cons]
            by_cases hb : b.1 = a.1
            · simp only [hb, if_true, this, decide_false]; exact ih
            · simp only [hb, if_false]; rw [ih]
      · simp only [h, if_false, decide_false] at q ⊢
        by_cases hj : a.1 = j
        · have : ¬ j = k := fun e => h (hj.trans e)
          simp [hj, this]
        · simp only [hj, decide_false]
          exact ih q
theorem plk_len {α : Type} (l : List (Int × α)) (k : Int) (x : α) : (plk l k x).length ≤ l.length + 1 := by
  unfold plk
  split <;> simp
@[simp] theorem b_and {i j : Int} : binP .BitAnd (.int i) (.int j) = some (.int (Builtin.bitAnd i j)) := rfl
@[simp] theorem b_or {i j : Int} : binP .BitOr (.int i) (.int j) = some (.int (Builtin.bitOr i j)) := rfl
theorem ldkV_at {n z : Nat} {kvs : List (P × P)} {s : Sr} (h : s[n]? = some (.dp z kvs)) : ldkV [.r n] s = .ok (.p (.list (kvs.map (·.1)))) s := by simp [ldkV, dat_at h]
theorem dvlV_0 {n : Nat} {kvs : List (P × P)} {s : Sr} (h : s[n]? = some (.dp 0 kvs)) : dvlV (.r n) s = .ok (.inl (kvs.map fun q => .p q.2)) (s.set n (.dp 1 kvs)) := by simp [dvlV, h]
end Mi
end
section
set_option Elab.async false
set_option linter.all false
set_option maxRecDepth 100000
set_option maxHeartbeats 4000000
namespace K10
open PySem Mi
/-! the trees of the row law_k10 (printed by gen.py) -/
/-- _law_pot(script, place) -/
def t__law_pot : T := (.cons (.as (.v 2 "cell" ⟨77, 4, 77, 8⟩) (.ite (.cmp (.v 1 "place" ⟨77, 28, 77, 33⟩) .Lt (.bi .len "len" (.cons (.v 0 "script" ⟨77, 40, 77, 46⟩) .nil) ⟨77, 36, 77, 39⟩ ⟨77, 36, 77, 47⟩) ⟨77, 28, 77, 47⟩) (.ix (.v 0 "script" ⟨77, 11, 77, 17⟩) (.v 1 "place" ⟨77, 18, 77, 23⟩) ⟨77, 11, 77, 24⟩) (.bin (.bin (.bin (.bi .int "int" (.cons (.bi .sum "sum" (.cons (.sl (.v 0 "script" ⟨77, 61, 77, 67⟩) .nil (.pl (.c (.int 1) 0 ⟨77, 69, 77, 70⟩)) ⟨77, 61, 77, 71⟩ ⟨77, 68, 77, 70⟩) .nil) ⟨77, 57, 77, 60⟩ ⟨77, 57, 77, 72⟩) .nil) ⟨77, 53, 77, 56⟩ ⟨77, 53, 77, 73⟩) .Mod (.c (.int 1000211) 0 ⟨77, 76, 77, 83⟩) ⟨77, 53, 77, 83⟩) .Add (.bin (.c (.int 4639) 0 ⟨77, 86, 77, 90⟩) .Mult (.v 1 "place" ⟨77, 93, 77, 98⟩) ⟨77, 86, 77, 98⟩) ⟨77, 53, 77, 98⟩) .Add (.c (.int 3163) 0 ⟨77, 101, 77, 105⟩) ⟨77, 53, 77, 105⟩) ⟨77, 11, 77, 105⟩) ⟨77, 4, 77, 105⟩) (.cons (.as (.v 3 "own" ⟨78, 4, 78, 7⟩) (.bin (.bin (.bi .int "int" (.cons (.bi .abs "abs" (.cons (.v 2 "cell" ⟨78, 18, 78, 22⟩) .nil) ⟨78, 14, 78, 17⟩ ⟨78, 14, 78, 23⟩) .nil) ⟨78, 10, 78, 13⟩ ⟨78, 10, 78, 24⟩) .Mod (.bin (.bin (.c (.int 10) 0 ⟨78, 28, 78, 30⟩) .Pow (.c (.int 60) 0 ⟨78, 34, 78, 36⟩) ⟨78, 28, 78, 36⟩) .Pow (.c (.int 5) 0 ⟨78, 41, 78, 42⟩) ⟨78, 27, 78, 42⟩) ⟨78, 10, 78, 42⟩) .Mult (.bi .int "int" (.cons (.cmp (.bi .abs "abs" (.cons (.v 2 "cell" ⟨78, 53, 78, 57⟩) .nil) ⟨78, 49, 78, 52⟩ ⟨78, 49, 78, 58⟩) .GtE (.bin (.c (.int 10) 0 ⟨78, 62, 78, 64⟩) .Pow (.c (.int 18) 0 ⟨78, 68, 78, 70⟩) ⟨78, 62, 78, 70⟩) ⟨78, 49, 78, 70⟩) .nil) ⟨78, 45, 78, 48⟩ ⟨78, 45, 78, 71⟩) ⟨78, 10, 78, 71⟩) ⟨78, 4, 78, 71⟩) (.cons (.as (.v 4 "small" ⟨79, 4, 79, 9⟩) (.bin (.bi .int "int" (.cons (.v 2 "cell" ⟨79, 16, 79, 20⟩) .nil) ⟨79, 12, 79, 15⟩ ⟨79, 12, 79, 21⟩) .Mod (.c (.int 2305843009213693951) 0 ⟨79, 24, 79, 43⟩) ⟨79, 12, 79, 43⟩) ⟨79, 4, 79, 43⟩) (.cons (.re (.lst true (.cons (.v 3 "own" ⟨80, 12, 80, 15⟩) (.cons (.bin (.bi .int "int" (.cons (.bin (.bin (.bin (.v 4 "small" ⟨80, 21, 80, 26⟩) .Mult (.c (.int 72161) 0 ⟨80, 29, 80, 34⟩) ⟨80, 21, 80, 34⟩) .Add (.bin (.bin (.c (.int 10853) 0 ⟨80, 37, 80, 42⟩) .Mult (.v 1 "place" ⟨80, 45, 80, 50⟩) ⟨80, 37, 80, 50⟩) .Mult (.v 1 "place" ⟨80, 53, 80, 58⟩) ⟨80, 37, 80, 58⟩) ⟨80, 21, 80, 58⟩) .Add (.c (.int 2843) 0 ⟨80, 61, 80, 65⟩) ⟨80, 21, 80, 65⟩) .nil) ⟨80, 17, 80, 20⟩ ⟨80, 17, 80, 66⟩) .Mod (.c (.int 2305843009213693921) 0 ⟨80, 69, 80, 88⟩) ⟨80, 17, 80, 88⟩) (.cons (.c (.int 0) 0 ⟨80, 90, 80, 91⟩) .nil))) ⟨80, 11, 80, 92⟩) ⟨80, 4, 80, 92⟩) .nil))))
/-- _law_take(pot, upto) -/
def t__law_take : T := (.cons (.iff (.cmp (.ix (.v 0 "pot" ⟨82, 7, 82, 10⟩) (.c (.int 0) 0 ⟨82, 11, 82, 12⟩) ⟨82, 7, 82, 13⟩) .Gt (.c (.int 0) 0 ⟨82, 16, 82, 17⟩) ⟨82, 7, 82, 17⟩) (.cons (.as (.v 2 "digit" ⟨83, 8, 83, 13⟩) (.bin (.bi .int "int" (.cons (.ix (.v 0 "pot" ⟨83, 20, 83, 23⟩) (.c (.int 0) 0 ⟨83, 24, 83, 25⟩) ⟨83, 20, 83, 26⟩) .nil) ⟨83, 16, 83, 19⟩ ⟨83, 16, 83, 27⟩) .Mod (.v 1 "upto" ⟨83, 30, 83, 34⟩) ⟨83, 16, 83, 34⟩) ⟨83, 8, 83, 34⟩) (.cons (.as (.ix (.v 0 "pot" ⟨84, 8, 84, 11⟩) (.c (.int 0) 0 ⟨84, 12, 84, 13⟩) ⟨84, 8, 84, 14⟩) (.bin (.ix (.v 0 "pot" ⟨84, 17, 84, 20⟩) (.c (.int 0) 0 ⟨84, 21, 84, 22⟩) ⟨84, 17, 84, 23⟩) .FloorDiv (.v 1 "upto" ⟨84, 27, 84, 31⟩) ⟨84, 17, 84, 31⟩) ⟨84, 8, 84, 31⟩) (.cons (.re (.v 2 "digit" ⟨85, 15, 85, 20⟩) ⟨85, 8, 85, 20⟩) .nil))) .nil ⟨82, 4, 85, 20⟩) (.cons (.as (.ix (.v 0 "pot" ⟨86, 4, 86, 7⟩) (.c (.int 2) 0 ⟨86, 8, 86, 9⟩) ⟨86, 4, 86, 10⟩) (.bin (.ix (.v 0 "pot" ⟨86, 13, 86, 16⟩) (.c (.int 2) 0 ⟨86, 17, 86, 18⟩) ⟨86, 13, 86, 19⟩) .Add (.c (.int 1) 0 ⟨86, 22, 86, 23⟩) ⟨86, 13, 86, 23⟩) ⟨86, 4, 86, 23⟩) (.cons (.as (.v 3 "prime" ⟨87, 4, 87, 9⟩) (.ix (.lst false (.cons (.c (.int 2147483647) 0 ⟨87, 13, 87, 23⟩) (.cons (.c (.int 2147483629) 0 ⟨87, 25, 87, 35⟩) (.cons (.c (.int 2147483587) 0 ⟨87, 37, 87, 47⟩) (.cons (.c (.int 2147483579) 0 ⟨87, 49, 87, 59⟩) (.cons (.c (.int 2147483563) 0 ⟨87, 61, 87, 71⟩) .nil))))) ⟨87, 12, 87, 72⟩) (.bin (.bi .int "int" (.cons (.ix (.v 0 "pot" ⟨87, 77, 87, 80⟩) (.c (.int 2) 0 ⟨87, 81, 87, 82⟩) ⟨87, 77, 87, 83⟩) .nil) ⟨87, 73, 87, 76⟩ ⟨87, 73, 87, 84⟩) .Mod (.c (.int 5) 0 ⟨87, 87, 87, 88⟩) ⟨87, 73, 87, 88⟩) ⟨87, 12, 87, 89⟩) ⟨87, 4, 87, 89⟩) (.cons (.as (.v 4 "blend" ⟨88, 4, 88, 9⟩) (.bin (.bi .int "int" (.cons (.bin (.bi .int "int" (.cons (.bin (.bin (.ix (.v 0 "pot" ⟨88, 20, 88, 23⟩) (.c (.int 1) 0 ⟨88, 24, 88, 25⟩) ⟨88, 20, 88, 26⟩) .Add (.bin (.bin (.c (.int 95257) 0 ⟨88, 29, 88, 34⟩) .Mult (.ix (.v 0 "pot" ⟨88, 37, 88, 40⟩) (.c (.int 2) 0 ⟨88, 41, 88, 42⟩) ⟨88, 37, 88, 43⟩) ⟨88, 29, 88, 43⟩) .Mult (.ix (.v 0 "pot" ⟨88, 46, 88, 49⟩) (.c (.int 2) 0 ⟨88, 50, 88, 51⟩) ⟨88, 46, 88, 52⟩) ⟨88, 29, 88, 52⟩) ⟨88, 20, 88, 52⟩) .Add (.c (.int 3163) 0 ⟨88, 55, 88, 59⟩) ⟨88, 20, 88, 59⟩) .nil) ⟨88, 16, 88, 19⟩ ⟨88, 16, 88, 60⟩) .Pow (.c (.int 3) 0 ⟨88, 64, 88, 65⟩) ⟨88, 16, 88, 65⟩) .nil) ⟨88, 12, 88, 15⟩ ⟨88, 12, 88, 66⟩) .Mod (.v 3 "prime" ⟨88, 69, 88, 74⟩) ⟨88, 12, 88, 74⟩) ⟨88, 4, 88, 74⟩) (.cons (.as (.v 4 "blend" ⟨89, 4, 89, 9⟩) (.bin (.bi .int "int" (.cons (.bin (.v 4 "blend" ⟨89, 16, 89, 21⟩) .Mult (.bin (.bin (.bi .int "int" (.cons (.v 4 "blend" ⟨89, 29, 89, 34⟩) .nil) ⟨89, 25, 89, 28⟩ ⟨89, 25, 89, 35⟩) .Mod (.c (.int 13441) 0 ⟨89, 38, 89, 43⟩) ⟨89, 25, 89, 43⟩) .Add (.bin (.c (.int 419) 0 ⟨89, 46, 89, 49⟩) .Mult (.ix (.v 0 "pot" ⟨89, 52, 89, 55⟩) (.c (.int 2) 0 ⟨89, 56, 89, 57⟩) ⟨89, 52, 89, 58⟩) ⟨89, 46, 89, 58⟩) ⟨89, 25, 89, 58⟩) ⟨89, 16, 89, 59⟩) .nil) ⟨89, 12, 89, 15⟩ ⟨89, 12, 89, 60⟩) .Mod (.c (.int 2305843009213693907) 0 ⟨89, 63, 89, 82⟩) ⟨89, 12, 89, 82⟩) ⟨89, 4, 89, 82⟩) (.cons (.re (.bin (.bi .int "int" (.cons (.bin (.v 4 "blend" ⟨90, 15, 90, 20⟩) .FloorDiv (.c (.int 229) 0 ⟨90, 24, 90, 27⟩) ⟨90, 15, 90, 27⟩) .nil) ⟨90, 11, 90, 14⟩ ⟨90, 11, 90, 28⟩) .Mod (.v 1 "upto" ⟨90, 31, 90, 35⟩) ⟨90, 11, 90, 35⟩) ⟨90, 4, 90, 35⟩) .nil))))))
/-- _law_of(pot, some) -/
def t__law_of : T := (.cons (.re (.ix (.v 1 "some" ⟨92, 11, 92, 15⟩) (.cal 1 false "_law_take" (.cons (.v 0 "pot" ⟨92, 26, 92, 29⟩) (.cons (.bi .len "len" (.cons (.v 1 "some" ⟨92, 35, 92, 39⟩) .nil) ⟨92, 31, 92, 34⟩ ⟨92, 31, 92, 40⟩) .nil)) ⟨92, 16, 92, 25⟩ ⟨92, 16, 92, 41⟩) ⟨92, 11, 92, 42⟩) ⟨92, 4, 92, 42⟩) .nil)
/-- _law_cells(script, most) -/
def t__law_cells : T := (.cons (.re (.lrg "list" (.cons (.bi .max "max" (.cons (.c (.int 1) 0 ⟨94, 26, 94, 27⟩) (.cons (.bi .min "min" (.cons (.v 1 "most" ⟨94, 33, 94, 37⟩) (.cons (.bi .len "len" (.cons (.v 0 "script" ⟨94, 43, 94, 49⟩) .nil) ⟨94, 39, 94, 42⟩ ⟨94, 39, 94, 50⟩) .nil)) ⟨94, 29, 94, 32⟩ ⟨94, 29, 94, 51⟩) .nil)) ⟨94, 22, 94, 25⟩ ⟨94, 22, 94, 52⟩) .nil) ⟨94, 11, 94, 15⟩ ⟨94, 16, 94, 21⟩ ⟨94, 16, 94, 53⟩ ⟨94, 11, 94, 54⟩) ⟨94, 4, 94, 54⟩) .nil)
/-- _law_odd(pot) -/
def t__law_odd : T := (.cons (.as (.v 1 "some" ⟨96, 4, 96, 8⟩) (.lst true (.cons (.c .none 0 ⟨96, 12, 96, 16⟩) (.cons (.c (.bool true) 0 ⟨96, 18, 96, 22⟩) (.cons (.c (.bool false) 0 ⟨96, 24, 96, 29⟩) (.cons (.c (.int 0) 0 ⟨96, 31, 96, 32⟩) (.cons (.c (.int 1) 0 ⟨96, 34, 96, 35⟩) (.cons (.neg (.c (.int 1) 0 ⟨96, 38, 96, 39⟩) ⟨96, 37, 96, 39⟩) (.cons (.c (.int 33) 0 ⟨96, 41, 96, 43⟩) (.cons (.bin (.c (.int 10) 0 ⟨96, 45, 96, 47⟩) .Pow (.c (.int 20) 0 ⟨96, 51, 96, 53⟩) ⟨96, 45, 96, 53⟩) (.cons (.c (.str "") 0 ⟨96, 55, 96, 57⟩) (.cons (.c (.str "pours") 0 ⟨96, 59, 96, 66⟩) (.cons (.c (.str "lot") 0 ⟨96, 68, 96, 73⟩) (.cons (.c (.str "crowd") 0 ⟨96, 75, 96, 82⟩) (.cons (.tup .nil 0 ⟨96, 84, 96, 86⟩) (.cons (.lst false .nil ⟨96, 88, 96, 90⟩) (.cons (.dv0 ⟨96, 92, 96, 94⟩) (.cons (.tup (.cons (.c (.int 0) 0 ⟨96, 97, 96, 98⟩) .nil) 0 ⟨96, 96, 96, 100⟩) (.cons (.tup (.cons (.tup .nil 0 ⟨96, 103, 96, 105⟩) .nil) 0 ⟨96, 102, 96, 107⟩) (.cons (.lst false (.cons (.c (.int 1) 0 ⟨96, 110, 96, 111⟩) .nil) ⟨96, 109, 96, 112⟩) .nil)))))))))))))))))) ⟨96, 11, 96, 113⟩) ⟨96, 4, 96, 113⟩) (.cons (.exs (.app (.v 1 "some" ⟨97, 4, 97, 8⟩) (.tup (.cons (.c (.int 1) 0 ⟨97, 17, 97, 18⟩) (.cons (.c (.int 0) 0 ⟨97, 20, 97, 21⟩) .nil)) 0 ⟨97, 16, 97, 22⟩) ⟨97, 4, 97, 15⟩ ⟨97, 4, 97, 23⟩) ⟨97, 4, 97, 23⟩) (.cons (.as (.v 1 "some" ⟨98, 4, 98, 8⟩) (.bin (.v 1 "some" ⟨98, 11, 98, 15⟩) .Add (.lst false (.cons (.tup (.cons (.c (.int 0) 0 ⟨98, 20, 98, 21⟩) (.cons (.c (.int 1) 0 ⟨98, 23, 98, 24⟩) .nil)) 0 ⟨98, 19, 98, 25⟩) (.cons (.tup (.cons (.c .none 0 ⟨98, 28, 98, 32⟩) .nil) 0 ⟨98, 27, 98, 34⟩) (.cons (.dvc (.str "a") 0 ⟨98, 37, 98, 40⟩ (.int 1) 0 ⟨98, 42, 98, 43⟩ ⟨98, 36, 98, 44⟩) (.cons (.tup (.cons (.tup (.cons (.c (.int 1) 0 ⟨98, 48, 98, 49⟩) .nil) 0 ⟨98, 47, 98, 51⟩) (.cons (.tup (.cons (.c (.int 2) 0 ⟨98, 54, 98, 55⟩) .nil) 0 ⟨98, 53, 98, 57⟩) .nil)) 0 ⟨98, 46, 98, 58⟩) (.cons (.tup (.cons (.c (.int 2) 0 ⟨98, 61, 98, 62⟩) (.cons (.c (.int 1) 0 ⟨98, 64, 98, 65⟩) .nil)) 0 ⟨98, 60, 98, 66⟩) (.cons (.tup (.cons (.c (.int 1) 0 ⟨98, 69, 98, 70⟩) (.cons (.c (.int 1) 0 ⟨98, 72, 98, 73⟩) (.cons (.c (.int 1) 0 ⟨98, 75, 98, 76⟩) .nil))) 0 ⟨98, 68, 98, 77⟩) (.cons (.tup (.cons (.tup (.cons (.c (.bool true) 0 ⟨98, 81, 98, 85⟩) .nil) 0 ⟨98, 80, 98, 87⟩) .nil) 0 ⟨98, 79, 98, 89⟩) (.cons (.tup (.cons (.c (.str "crowd") 0 ⟨98, 92, 98, 99⟩) (.cons (.c (.int 0) 0 ⟨98, 101, 98, 102⟩) .nil)) 0 ⟨98, 91, 98, 103⟩) (.cons (.tup (.cons (.c (.int 2) 0 ⟨98, 106, 98, 107⟩) (.cons (.c (.int 1) 0 ⟨98, 109, 98, 110⟩) (.cons (.c (.int 0) 0 ⟨98, 112, 98, 113⟩) .nil))) 0 ⟨98, 105, 98, 114⟩) .nil))))))))) ⟨98, 18, 98, 115⟩) ⟨98, 11, 98, 115⟩) ⟨98, 4, 98, 115⟩) (.cons (.re (.cal 2 false "_law_of" (.cons (.v 0 "pot" ⟨99, 19, 99, 22⟩) (.cons (.v 1 "some" ⟨99, 24, 99, 28⟩) .nil)) ⟨99, 11, 99, 18⟩ ⟨99, 11, 99, 29⟩) ⟨99, 4, 99, 29⟩) .nil))))
/-- _law_all_made(value) -/
def t__law_all_made : T := (.cons (.as (.v 1 "found" ⟨101, 4, 101, 9⟩) (.lst false (.cons (.mkx "BadInt" (.v 0 "value" ⟨101, 20, 101, 25⟩) ⟨101, 13, 101, 19⟩ ⟨101, 13, 101, 26⟩) (.cons (.mkx "BadWine" (.v 0 "value" ⟨101, 36, 101, 41⟩) ⟨101, 28, 101, 35⟩ ⟨101, 28, 101, 42⟩) (.cons (.mkx "BadWines" (.v 0 "value" ⟨101, 53, 101, 58⟩) ⟨101, 44, 101, 52⟩ ⟨101, 44, 101, 59⟩) (.cons (.mkx "BadCasks" (.v 0 "value" ⟨101, 70, 101, 75⟩) ⟨101, 61, 101, 69⟩ ⟨101, 61, 101, 76⟩) (.cons (.mkx "BadOrders" (.v 0 "value" ⟨101, 88, 101, 93⟩) ⟨101, 78, 101, 87⟩ ⟨101, 78, 101, 94⟩) (.cons (.mkx "BadPlan" (.v 0 "value" ⟨101, 104, 101, 109⟩) ⟨101, 96, 101, 103⟩ ⟨101, 96, 101, 110⟩) (.cons (.mkx "BadRoom" (.v 0 "value" ⟨101, 120, 101, 125⟩) ⟨101, 112, 101, 119⟩ ⟨101, 112, 101, 126⟩) (.cons (.mkx "BadRooms" (.v 0 "value" ⟨101, 137, 101, 142⟩) ⟨101, 128, 101, 136⟩ ⟨101, 128, 101, 143⟩) (.cons (.mkx "BadParts" (.v 0 "value" ⟨101, 154, 101, 159⟩) ⟨101, 145, 101, 153⟩ ⟨101, 145, 101, 160⟩) (.cons (.mkx "BadBlend" (.v 0 "value" ⟨101, 171, 101, 176⟩) ⟨101, 162, 101, 170⟩ ⟨101, 162, 101, 177⟩) (.cons (.mkx "BadShares" (.v 0 "value" ⟨101, 189, 101, 194⟩) ⟨101, 179, 101, 188⟩ ⟨101, 179, 101, 195⟩) (.cons (.mkx "Unlike" (.v 0 "value" ⟨101, 204, 101, 209⟩) ⟨101, 197, 101, 203⟩ ⟨101, 197, 101, 210⟩) (.cons (.mkx "TooMany" (.v 0 "value" ⟨101, 220, 101, 225⟩) ⟨101, 212, 101, 219⟩ ⟨101, 212, 101, 226⟩) (.cons (.mkx "Full" (.v 0 "value" ⟨101, 233, 101, 238⟩) ⟨101, 228, 101, 232⟩ ⟨101, 228, 101, 239⟩) (.cons (.mkx "Unknown" (.v 0 "value" ⟨101, 249, 101, 254⟩) ⟨101, 241, 101, 248⟩ ⟨101, 241, 101, 255⟩) (.cons (.mkx "NothingToUndo" (.v 0 "value" ⟨101, 271, 101, 276⟩) ⟨101, 257, 101, 270⟩ ⟨101, 257, 101, 277⟩) (.cons (.mkx "NothingToRedo" (.v 0 "value" ⟨101, 293, 101, 298⟩) ⟨101, 279, 101, 292⟩ ⟨101, 279, 101, 299⟩) (.cons (.mkx "BadJournal" (.v 0 "value" ⟨101, 312, 101, 317⟩) ⟨101, 301, 101, 311⟩ ⟨101, 301, 101, 318⟩) (.cons (.mkx "BadLine" (.v 0 "value" ⟨101, 328, 101, 333⟩) ⟨101, 320, 101, 327⟩ ⟨101, 320, 101, 334⟩) (.cons (.mkx "BadRackings" (.v 0 "value" ⟨101, 348, 101, 353⟩) ⟨101, 336, 101, 347⟩ ⟨101, 336, 101, 354⟩) (.cons (.mkx "BadTaints" (.v 0 "value" ⟨101, 366, 101, 371⟩) ⟨101, 356, 101, 365⟩ ⟨101, 356, 101, 372⟩) (.cons (.mkx "BadFillings" (.v 0 "value" ⟨101, 386, 101, 391⟩) ⟨101, 374, 101, 385⟩ ⟨101, 374, 101, 392⟩) (.cons (.mkx "BadFound" (.v 0 "value" ⟨101, 403, 101, 408⟩) ⟨101, 394, 101, 402⟩ ⟨101, 394, 101, 409⟩) (.cons (.mkx "BadWeights" (.v 0 "value" ⟨101, 422, 101, 427⟩) ⟨101, 411, 101, 421⟩ ⟨101, 411, 101, 428⟩) (.cons (.mkx "BadCrates" (.v 0 "value" ⟨101, 440, 101, 445⟩) ⟨101, 430, 101, 439⟩ ⟨101, 430, 101, 446⟩) (.cons (.mkx "BadBottles" (.v 0 "value" ⟨101, 459, 101, 464⟩) ⟨101, 448, 101, 458⟩ ⟨101, 448, 101, 465⟩) (.cons (.mkx "BadScales" (.v 0 "value" ⟨101, 477, 101, 482⟩) ⟨101, 467, 101, 476⟩ ⟨101, 467, 101, 483⟩) (.cons (.mkx "BadLabels" (.v 0 "value" ⟨101, 495, 101, 500⟩) ⟨101, 485, 101, 494⟩ ⟨101, 485, 101, 501⟩) (.cons (.mkx "BadJugs" (.v 0 "value" ⟨101, 511, 101, 516⟩) ⟨101, 503, 101, 510⟩ ⟨101, 503, 101, 517⟩) (.cons (.mkx "BadPours" (.v 0 "value" ⟨101, 528, 101, 533⟩) ⟨101, 519, 101, 527⟩ ⟨101, 519, 101, 534⟩) (.cons (.mkx "BadVats" (.v 0 "value" ⟨101, 544, 101, 549⟩) ⟨101, 536, 101, 543⟩ ⟨101, 536, 101, 550⟩) (.cons (.mkx "BadAccounts" (.v 0 "value" ⟨101, 564, 101, 569⟩) ⟨101, 552, 101, 563⟩ ⟨101, 552, 101, 570⟩) (.cons (.mkx "BadFlights" (.v 0 "value" ⟨101, 583, 101, 588⟩) ⟨101, 572, 101, 582⟩ ⟨101, 572, 101, 589⟩) (.cons (.mkx "BadRankings" (.v 0 "value" ⟨101, 603, 101, 608⟩) ⟨101, 591, 101, 602⟩ ⟨101, 591, 101, 609⟩) .nil)))))))))))))))))))))))))))))))))) ⟨101, 12, 101, 610⟩) ⟨101, 4, 101, 610⟩) (.cons (.re (.v 1 "found" ⟨102, 11, 102, 16⟩) ⟨102, 4, 102, 16⟩) .nil))
/-- _law_lots(told) -/
def t__law_lots : T := (.cons (.as (.v 1 "found" ⟨104, 4, 104, 9⟩) (.lst true .nil ⟨104, 12, 104, 14⟩) ⟨104, 4, 104, 14⟩) (.cons (.exs (.app (.v 1 "found" ⟨105, 4, 105, 9⟩) (.cp false (.v 2 "one" ⟨105, 18, 105, 21⟩) (.v 2 "one" ⟨105, 26, 105, 29⟩) (.pl (.v 0 "told" ⟨105, 33, 105, 37⟩)) (.cons (.isx (.v 2 "one" ⟨105, 52, 105, 55⟩) "BadInt" ⟨105, 41, 105, 51⟩ ⟨105, 57, 105, 63⟩ ⟨105, 41, 105, 64⟩) .nil) ⟨.function, [(".0", .local), ("one", .local), ("isinstance", .globalImplicit), ("BadInt", .globalImplicit)], false, false, []⟩ [("one", 2)] ⟨105, 17, 105, 65⟩) ⟨105, 4, 105, 16⟩ ⟨105, 4, 105, 66⟩) ⟨105, 4, 105, 66⟩) (.cons (.exs (.app (.v 1 "found" ⟨106, 4, 106, 9⟩) (.cp false (.v 2 "one" ⟨106, 18, 106, 21⟩) (.v 2 "one" ⟨106, 26, 106, 29⟩) (.pl (.v 0 "told" ⟨106, 33, 106, 37⟩)) (.cons (.isx (.v 2 "one" ⟨106, 52, 106, 55⟩) "BadWine" ⟨106, 41, 106, 51⟩ ⟨106, 57, 106, 64⟩ ⟨106, 41, 106, 65⟩) .nil) ⟨.function, [(".0", .local), ("one", .local), ("isinstance", .globalImplicit), ("BadWine", .globalImplicit)], false, false, []⟩ [("one", 2)] ⟨106, 17, 106, 66⟩) ⟨106, 4, 106, 16⟩ ⟨106, 4, 106, 67⟩) ⟨106, 4, 106, 67⟩) (.cons (.exs (.app (.v 1 "found" ⟨107, 4, 107, 9⟩) (.cp false (.v 2 "one" ⟨107, 18, 107, 21⟩) (.v 2 "one" ⟨107, 26, 107, 29⟩) (.pl (.v 0 "told" ⟨107, 33, 107, 37⟩)) (.cons (.isx (.v 2 "one" ⟨107, 52, 107, 55⟩) "BadWines" ⟨107, 41, 107, 51⟩ ⟨107, 57, 107, 65⟩ ⟨107, 41, 107, 66⟩) .nil) ⟨.function, [(".0", .local), ("one", .local), ("isinstance", .globalImplicit), ("BadWines", .globalImplicit)], false, false, []⟩ [("one", 2)] ⟨107, 17, 107, 67⟩) ⟨107, 4, 107, 16⟩ ⟨107, 4, 107, 68⟩) ⟨107, 4, 107, 68⟩) (.cons (.exs (.app (.v 1 "found" ⟨108, 4, 108, 9⟩) (.cp false (.v 2 "one" ⟨108, 18, 108, 21⟩) (.v 2 "one" ⟨108, 26, 108, 29⟩) (.pl (.v 0 "told" ⟨108, 33, 108, 37⟩)) (.cons (.isx (.v 2 "one" ⟨108, 52, 108, 55⟩) "BadCasks" ⟨108, 41, 108, 51⟩ ⟨108, 57, 108, 65⟩ ⟨108, 41, 108, 66⟩) .nil) ⟨.function, [(".0", .local), ("one", .local), ("isinstance", .globalImplicit), ("BadCasks", .globalImplicit)], false, false, []⟩ [("one", 2)] ⟨108, 17, 108, 67⟩) ⟨108, 4, 108, 16⟩ ⟨108, 4, 108, 68⟩) ⟨108, 4, 108, 68⟩) (.cons (.exs (.app (.v 1 "found" ⟨109, 4, 109, 9⟩) (.cp false (.v 2 "one" ⟨109, 18, 109, 21⟩) (.v 2 "one" ⟨109, 26, 109, 29⟩) (.pl (.v 0 "told" ⟨109, 33, 109, 37⟩)) (.cons (.isx (.v 2 "one" ⟨109, 52, 109, 55⟩) "BadOrders" ⟨109, 41, 109, 51⟩ ⟨109, 57, 109, 66⟩ ⟨109, 41, 109, 67⟩) .nil) ⟨.function, [(".0", .local), ("one", .local), ("isinstance", .globalImplicit), ("BadOrders", .globalImplicit)], false, false, []⟩ [("one", 2)] ⟨109, 17, 109, 68⟩) ⟨109, 4, 109, 16⟩ ⟨109, 4, 109, 69⟩) ⟨109, 4, 109, 69⟩) (.cons (.exs (.app (.v 1 "found" ⟨110, 4, 110, 9⟩) (.cp false (.v 2 "one" ⟨110, 18, 110, 21⟩) (.v 2 "one" ⟨110, 26, 110, 29⟩) (.pl (.v 0 "told" ⟨110, 33, 110, 37⟩)) (.cons (.isx (.v 2 "one" ⟨110, 52, 110, 55⟩) "BadPlan" ⟨110, 41, 110, 51⟩ ⟨110, 57, 110, 64⟩ ⟨110, 41, 110, 65⟩) .nil) ⟨.function, [(".0", .local), ("one", .local), ("isinstance", .globalImplicit), ("BadPlan", .globalImplicit)], false, false, []⟩ [("one", 2)] ⟨110, 17, 110, 66⟩) ⟨110, 4, 110, 16⟩ ⟨110, 4, 110, 67⟩) ⟨110, 4, 110, 67⟩) (.cons (.exs (.app (.v 1 "found" ⟨111, 4, 111, 9⟩) (.cp false (.v 2 "one" ⟨111, 18, 111, 21⟩) (.v 2 "one" ⟨111, 26, 111, 29⟩) (.pl (.v 0 "told" ⟨111, 33, 111, 37⟩)) (.cons (.isx (.v 2 "one" ⟨111, 52, 111, 55⟩) "BadRoom" ⟨111, 41, 111, 51⟩ ⟨111, 57, 111, 64⟩ ⟨111, 41, 111, 65⟩) .nil) ⟨.function, [(".0", .local), ("one", .local), ("isinstance", .globalImplicit), ("BadRoom", .globalImplicit)], false, false, []⟩ [("one", 2)] ⟨111, 17, 111, 66⟩) ⟨111, 4, 111, 16⟩ ⟨111, 4, 111, 67⟩) ⟨111, 4, 111, 67⟩) (.cons (.exs (.app (.v 1 "found" ⟨112, 4, 112, 9⟩) (.cp false (.v 2 "one" ⟨112, 18, 112, 21⟩) (.v 2 "one" ⟨112, 26, 112, 29⟩) (.pl (.v 0 "told" ⟨112, 33, 112, 37⟩)) (.cons (.isx (.v 2 "one" ⟨112, 52, 112, 55⟩) "BadRooms" ⟨112, 41, 112, 51⟩ ⟨112, 57, 112, 65⟩ ⟨112, 41, 112, 66⟩) .nil) ⟨.function, [(".0", .local), ("one", .local), ("isinstance", .globalImplicit), ("BadRooms", .globalImplicit)], false, false, []⟩ [("one", 2)] ⟨112, 17, 112, 67⟩) ⟨112, 4, 112, 16⟩ ⟨112, 4, 112, 68⟩) ⟨112, 4, 112, 68⟩) (.cons (.exs (.app (.v 1 "found" ⟨113, 4, 113, 9⟩) (.cp false (.v 2 "one" ⟨113, 18, 113, 21⟩) (.v 2 "one" ⟨113, 26, 113, 29⟩) (.pl (.v 0 "told" ⟨113, 33, 113, 37⟩)) (.cons (.isx (.v 2 "one" ⟨113, 52, 113, 55⟩) "BadParts" ⟨113, 41, 113, 51⟩ ⟨113, 57, 113, 65⟩ ⟨113, 41, 113, 66⟩) .nil) ⟨.function, [(".0", .local), ("one", .local), ("isinstance", .globalImplicit), ("BadParts", .globalImplicit)], false, false, []⟩ [("one", 2)] ⟨113, 17, 113, 67⟩) ⟨113, 4, 113, 16⟩ ⟨113, 4, 113, 68⟩) ⟨113, 4, 113, 68⟩) (.cons (.exs (.app (.v 1 "found" ⟨114, 4, 114, 9⟩) (.cp false (.v 2 "one" ⟨114, 18, 114, 21⟩) (.v 2 "one" ⟨114, 26, 114, 29⟩) (.pl (.v 0 "told" ⟨114, 33, 114, 37⟩)) (.cons (.isx (.v 2 "one" ⟨114, 52, 114, 55⟩) "BadBlend" ⟨114, 41, 114, 51⟩ ⟨114, 57, 114, 65⟩ ⟨114, 41, 114, 66⟩) .nil) ⟨.function, [(".0", .local), ("one", .local), ("isinstance", .globalImplicit), ("BadBlend", .globalImplicit)], false, false, []⟩ [("one", 2)] ⟨114, 17, 114, 67⟩) ⟨114, 4, 114, 16⟩ ⟨114, 4, 114, 68⟩) ⟨114, 4, 114, 68⟩) (.cons (.exs (.app (.v 1 "found" ⟨115, 4, 115, 9⟩) (.cp false (.v 2 "one" ⟨115, 18, 115, 21⟩) (.v 2 "one" ⟨115, 26, 115, 29⟩) (.pl (.v 0 "told" ⟨115, 33, 115, 37⟩)) (.cons (.isx (.v 2 "one" ⟨115, 52, 115, 55⟩) "BadShares" ⟨115, 41, 115, 51⟩ ⟨115, 57, 115, 66⟩ ⟨115, 41, 115, 67⟩) .nil) ⟨.function, [(".0", .local), ("one", .local), ("isinstance", .globalImplicit), ("BadShares", .globalImplicit)], false, false, []⟩ [("one", 2)] ⟨115, 17, 115, 68⟩) ⟨115, 4, 115, 16⟩ ⟨115, 4, 115, 69⟩) ⟨115, 4, 115, 69⟩) (.cons (.exs (.app (.v 1 "found" ⟨116, 4, 116, 9⟩) (.cp false (.v 2 "one" ⟨116, 18, 116, 21⟩) (.v 2 "one" ⟨116, 26, 116, 29⟩) (.pl (.v 0 "told" ⟨116, 33, 116, 37⟩)) (.cons (.isx (.v 2 "one" ⟨116, 52, 116, 55⟩) "Unlike" ⟨116, 41, 116, 51⟩ ⟨116, 57, 116, 63⟩ ⟨116, 41, 116, 64⟩) .nil) ⟨.function, [(".0", .local), ("one", .local), ("isinstance", .globalImplicit), ("Unlike", .globalImplicit)], false, false, []⟩ [("one", 2)] ⟨116, 17, 116, 65⟩) ⟨116, 4, 116, 16⟩ ⟨116, 4, 116, 66⟩) ⟨116, 4, 116, 66⟩) (.cons (.exs (.app (.v 1 "found" ⟨117, 4, 117, 9⟩) (.cp false (.v 2 "one" ⟨117, 18, 117, 21⟩) (.v 2 "one" ⟨117, 26, 117, 29⟩) (.pl (.v 0 "told" ⟨117, 33, 117, 37⟩)) (.cons (.isx (.v 2 "one" ⟨117, 52, 117, 55⟩) "TooMany" ⟨117, 41, 117, 51⟩ ⟨117, 57, 117, 64⟩ ⟨117, 41, 117, 65⟩) .nil) ⟨.function, [(".0", .local), ("one", .local), ("isinstance", .globalImplicit), ("TooMany", .globalImplicit)], false, false, []⟩ [("one", 2)] ⟨117, 17, 117, 66⟩) ⟨117, 4, 117, 16⟩ ⟨117, 4, 117, 67⟩) ⟨117, 4, 117, 67⟩) (.cons (.exs (.app (.v 1 "found" ⟨118, 4, 118, 9⟩) (.cp false (.v 2 "one" ⟨118, 18, 118, 21⟩) (.v 2 "one" ⟨118, 26, 118, 29⟩) (.pl (.v 0 "told" ⟨118, 33, 118, 37⟩)) (.cons (.isx (.v 2 "one" ⟨118, 52, 118, 55⟩) "Full" ⟨118, 41, 118, 51⟩ ⟨118, 57, 118, 61⟩ ⟨118, 41, 118, 62⟩) .nil) ⟨.function, [(".0", .local), ("one", .local), ("isinstance", .globalImplicit), ("Full", .globalImplicit)], false, false, []⟩ [("one", 2)] ⟨118, 17, 118, 63⟩) ⟨118, 4, 118, 16⟩ ⟨118, 4, 118, 64⟩) ⟨118, 4, 118, 64⟩) (.cons (.exs (.app (.v 1 "found" ⟨119, 4, 119, 9⟩) (.cp false (.v 2 "one" ⟨119, 18, 119, 21⟩) (.v 2 "one" ⟨119, 26, 119, 29⟩) (.pl (.v 0 "told" ⟨119, 33, 119, 37⟩)) (.cons (.isx (.v 2 "one" ⟨119, 52, 119, 55⟩) "Unknown" ⟨119, 41, 119, 51⟩ ⟨119, 57, 119, 64⟩ ⟨119, 41, 119, 65⟩) .nil) ⟨.function, [(".0", .local), ("one", .local), ("isinstance", .globalImplicit), ("Unknown", .globalImplicit)], false, false, []⟩ [("one", 2)] ⟨119, 17, 119, 66⟩) ⟨119, 4, 119, 16⟩ ⟨119, 4, 119, 67⟩) ⟨119, 4, 119, 67⟩) (.cons (.exs (.app (.v 1 "found" ⟨120, 4, 120, 9⟩) (.cp false (.v 2 "one" ⟨120, 18, 120, 21⟩) (.v 2 "one" ⟨120, 26, 120, 29⟩) (.pl (.v 0 "told" ⟨120, 33, 120, 37⟩)) (.cons (.isx (.v 2 "one" ⟨120, 52, 120, 55⟩) "NothingToUndo" ⟨120, 41, 120, 51⟩ ⟨120, 57, 120, 70⟩ ⟨120, 41, 120, 71⟩) .nil) ⟨.function, [(".0", .local), ("one", .local), ("isinstance", .globalImplicit), ("NothingToUndo", .globalImplicit)], false, false, []⟩ [("one", 2)] ⟨120, 17, 120, 72⟩) ⟨120, 4, 120, 16⟩ ⟨120, 4, 120, 73⟩) ⟨120, 4, 120, 73⟩) (.cons (.exs (.app (.v 1 "found" ⟨121, 4, 121, 9⟩) (.cp false (.v 2 "one" ⟨121, 18, 121, 21⟩) (.v 2 "one" ⟨121, 26, 121, 29⟩) (.pl (.v 0 "told" ⟨121, 33, 121, 37⟩)) (.cons (.isx (.v 2 "one" ⟨121, 52, 121, 55⟩) "NothingToRedo" ⟨121, 41, 121, 51⟩ ⟨121, 57, 121, 70⟩ ⟨121, 41, 121, 71⟩) .nil) ⟨.function, [(".0", .local), ("one", .local), ("isinstance", .globalImplicit), ("NothingToRedo", .globalImplicit)], false, false, []⟩ [("one", 2)] ⟨121, 17, 121, 72⟩) ⟨121, 4, 121, 16⟩ ⟨121, 4, 121, 73⟩) ⟨121, 4, 121, 73⟩) (.cons (.exs (.app (.v 1 "found" ⟨122, 4, 122, 9⟩) (.cp false (.v 2 "one" ⟨122, 18, 122, 21⟩) (.v 2 "one" ⟨122, 26, 122, 29⟩) (.pl (.v 0 "told" ⟨122, 33, 122, 37⟩)) (.cons (.isx (.v 2 "one" ⟨122, 52, 122, 55⟩) "BadJournal" ⟨122, 41, 122, 51⟩ ⟨122, 57, 122, 67⟩ ⟨122, 41, 122, 68⟩) .nil) ⟨.function, [(".0", .local), ("one", .local), ("isinstance", .globalImplicit), ("BadJournal", .globalImplicit)], false, false, []⟩ [("one", 2)] ⟨122, 17, 122, 69⟩) ⟨122, 4, 122, 16⟩ ⟨122, 4, 122, 70⟩) ⟨122, 4, 122, 70⟩) (.cons (.exs (.app (.v 1 "found" ⟨123, 4, 123, 9⟩) (.cp false (.v 2 "one" ⟨123, 18, 123, 21⟩) (.v 2 "one" ⟨123, 26, 123, 29⟩) (.pl (.v 0 "told" ⟨123, 33, 123, 37⟩)) (.cons (.isx (.v 2 "one" ⟨123, 52, 123, 55⟩) "BadLine" ⟨123, 41, 123, 51⟩ ⟨123, 57, 123, 64⟩ ⟨123, 41, 123, 65⟩) .nil) ⟨.function, [(".0", .local), ("one", .local), ("isinstance", .globalImplicit), ("BadLine", .globalImplicit)], false, false, []⟩ [("one", 2)] ⟨123, 17, 123, 66⟩) ⟨123, 4, 123, 16⟩ ⟨123, 4, 123, 67⟩) ⟨123, 4, 123, 67⟩) (.cons (.exs (.app (.v 1 "found" ⟨124, 4, 124, 9⟩) (.cp false (.v 2 "one" ⟨124, 18, 124, 21⟩) (.v 2 "one" ⟨124, 26, 124, 29⟩) (.pl (.v 0 "told" ⟨124, 33, 124, 37⟩)) (.cons (.isx (.v 2 "one" ⟨124, 52, 124, 55⟩) "BadRackings" ⟨124, 41, 124, 51⟩ ⟨124, 57, 124, 68⟩ ⟨124, 41, 124, 69⟩) .nil) ⟨.function, [(".0", .local), ("one", .local), ("isinstance", .globalImplicit), ("BadRackings", .globalImplicit)], false, false, []⟩ [("one", 2)] ⟨124, 17, 124, 70⟩) ⟨124, 4, 124, 16⟩ ⟨124, 4, 124, 71⟩) ⟨124, 4, 124, 71⟩) (.cons (.exs (.app (.v 1 "found" ⟨125, 4, 125, 9⟩) (.cp false (.v 2 "one" ⟨125, 18, 125, 21⟩) (.v 2 "one" ⟨125, 26, 125, 29⟩) (.pl (.v 0 "told" ⟨125, 33, 125, 37⟩)) (.cons (.isx (.v 2 "one" ⟨125, 52, 125, 55⟩) "BadTaints" ⟨125, 41, 125, 51⟩ ⟨125, 57, 125, 66⟩ ⟨125, 41, 125, 67⟩) .nil) ⟨.function, [(".0", .local), ("one", .local), ("isinstance", .globalImplicit), ("BadTaints", .globalImplicit)], false, false, []⟩ [("one", 2)] ⟨125, 17, 125, 68⟩) ⟨125, 4, 125, 16⟩ ⟨125, 4, 125, 69⟩) ⟨125, 4, 125, 69⟩) (.cons (.exs (.app (.v 1 "found" ⟨126, 4, 126, 9⟩) (.cp false (.v 2 "one" ⟨126, 18, 126, 21⟩) (.v 2 "one" ⟨126, 26, 126, 29⟩) (.pl (.v 0 "told" ⟨126, 33, 126, 37⟩)) (.cons (.isx (.v 2 "one" ⟨126, 52, 126, 55⟩) "BadFillings" ⟨126, 41, 126, 51⟩ ⟨126, 57, 126, 68⟩ ⟨126, 41, 126, 69⟩) .nil) ⟨.function, [(".0", .local), ("one", .local), ("isinstance", .globalImplicit), ("BadFillings", .globalImplicit)], false, false, []⟩ [("one", 2)] ⟨126, 17, 126, 70⟩) ⟨126, 4, 126, 16⟩ ⟨126, 4, 126, 71⟩) ⟨126, 4, 126, 71⟩) (.cons (.exs (.app (.v 1 "found" ⟨127, 4, 127, 9⟩) (.cp false (.v 2 "one" ⟨127, 18, 127, 21⟩) (.v 2 "one" ⟨127, 26, 127, 29⟩) (.pl (.v 0 "told" ⟨127, 33, 127, 37⟩)) (.cons (.isx (.v 2 "one" ⟨127, 52, 127, 55⟩) "BadFound" ⟨127, 41, 127, 51⟩ ⟨127, 57, 127, 65⟩ ⟨127, 41, 127, 66⟩) .nil) ⟨.function, [(".0", .local), ("one", .local), ("isinstance", .globalImplicit), ("BadFound", .globalImplicit)], false, false, []⟩ [("one", 2)] ⟨127, 17, 127, 67⟩) ⟨127, 4, 127, 16⟩ ⟨127, 4, 127, 68⟩) ⟨127, 4, 127, 68⟩) (.cons (.exs (.app (.v 1 "found" ⟨128, 4, 128, 9⟩) (.cp false (.v 2 "one" ⟨128, 18, 128, 21⟩) (.v 2 "one" ⟨128, 26, 128, 29⟩) (.pl (.v 0 "told" ⟨128, 33, 128, 37⟩)) (.cons (.isx (.v 2 "one" ⟨128, 52, 128, 55⟩) "BadWeights" ⟨128, 41, 128, 51⟩ ⟨128, 57, 128, 67⟩ ⟨128, 41, 128, 68⟩) .nil) ⟨.function, [(".0", .local), ("one", .local), ("isinstance", .globalImplicit), ("BadWeights", .globalImplicit)], false, false, []⟩ [("one", 2)] ⟨128, 17, 128, 69⟩) ⟨128, 4, 128, 16⟩ ⟨128, 4, 128, 70⟩) ⟨128, 4, 128, 70⟩) (.cons (.exs (.app (.v 1 "found" ⟨129, 4, 129, 9⟩) (.cp false (.v 2 "one" ⟨129, 18, 129, 21⟩) (.v 2 "one" ⟨129, 26, 129, 29⟩) (.pl (.v 0 "told" ⟨129, 33, 129, 37⟩)) (.cons (.isx (.v 2 "one" ⟨129, 52, 129, 55⟩) "BadCrates" ⟨129, 41, 129, 51⟩ ⟨129, 57, 129, 66⟩ ⟨129, 41, 129, 67⟩) .nil) ⟨.function, [(".0", .local), ("one", .local), ("isinstance", .globalImplicit), ("BadCrates", .globalImplicit)], false, false, []⟩ [("one", 2)] ⟨129, 17, 129, 68⟩) ⟨129, 4, 129, 16⟩ ⟨129, 4, 129, 69⟩) ⟨129, 4, 129, 69⟩) (.cons (.exs (.app (.v 1 "found" ⟨130, 4, 130, 9⟩) (.cp false (.v 2 "one" ⟨130, 18, 130, 21⟩) (.v 2 "one" ⟨130, 26, 130, 29⟩) (.pl (.v 0 "told" ⟨130, 33, 130, 37⟩)) (.cons (.isx (.v 2 "one" ⟨130, 52, 130, 55⟩) "BadBottles" ⟨130, 41, 130, 51⟩ ⟨130, 57, 130, 67⟩ ⟨130, 41, 130, 68⟩) .nil) ⟨.function, [(".0", .local), ("one", .local), ("isinstance", .globalImplicit), ("BadBottles", .globalImplicit)], false, false, []⟩ [("one", 2)] ⟨130, 17, 130, 69⟩) ⟨130, 4, 130, 16⟩ ⟨130, 4, 130, 70⟩) ⟨130, 4, 130, 70⟩) (.cons (.exs (.app (.v 1 "found" ⟨131, 4, 131, 9⟩) (.cp false (.v 2 "one" ⟨131, 18, 131, 21⟩) (.v 2 "one" ⟨131, 26, 131, 29⟩) (.pl (.v 0 "told" ⟨131, 33, 131, 37⟩)) (.cons (.isx (.v 2 "one" ⟨131, 52, 131, 55⟩) "BadScales" ⟨131, 41, 131, 51⟩ ⟨131, 57, 131, 66⟩ ⟨131, 41, 131, 67⟩) .nil) ⟨.function, [(".0", .local), ("one", .local), ("isinstance", .globalImplicit), ("BadScales", .globalImplicit)], false, false, []⟩ [("one", 2)] ⟨131, 17, 131, 68⟩) ⟨131, 4, 131, 16⟩ ⟨131, 4, 131, 69⟩) ⟨131, 4, 131, 69⟩) (.cons (.exs (.app (.v 1 "found" ⟨132, 4, 132, 9⟩) (.cp false (.v 2 "one" ⟨132, 18, 132, 21⟩) (.v 2 "one" ⟨132, 26, 132, 29⟩) (.pl (.v 0 "told" ⟨132, 33, 132, 37⟩)) (.cons (.isx (.v 2 "one" ⟨132, 52, 132, 55⟩) "BadLabels" ⟨132, 41, 132, 51⟩ ⟨132, 57, 132, 66⟩ ⟨132, 41, 132, 67⟩) .nil) ⟨.function, [(".0", .local), ("one", .local), ("isinstance", .globalImplicit), ("BadLabels", .globalImplicit)], false, false, []⟩ [("one", 2)] ⟨132, 17, 132, 68⟩) ⟨132, 4, 132, 16⟩ ⟨132, 4, 132, 69⟩) ⟨132, 4, 132, 69⟩) (.cons (.exs (.app (.v 1 "found" ⟨133, 4, 133, 9⟩) (.cp false (.v 2 "one" ⟨133, 18, 133, 21⟩) (.v 2 "one" ⟨133, 26, 133, 29⟩) (.pl (.v 0 "told" ⟨133, 33, 133, 37⟩)) (.cons (.isx (.v 2 "one" ⟨133, 52, 133, 55⟩) "BadJugs" ⟨133, 41, 133, 51⟩ ⟨133, 57, 133, 64⟩ ⟨133, 41, 133, 65⟩) .nil) ⟨.function, [(".0", .local), ("one", .local), ("isinstance", .globalImplicit), ("BadJugs", .globalImplicit)], false, false, []⟩ [("one", 2)] ⟨133, 17, 133, 66⟩) ⟨133, 4, 133, 16⟩ ⟨133, 4, 133, 67⟩) ⟨133, 4, 133, 67⟩) (.cons (.exs (.app (.v 1 "found" ⟨134, 4, 134, 9⟩) (.cp false (.v 2 "one" ⟨134, 18, 134, 21⟩) (.v 2 "one" ⟨134, 26, 134, 29⟩) (.pl (.v 0 "told" ⟨134, 33, 134, 37⟩)) (.cons (.isx (.v 2 "one" ⟨134, 52, 134, 55⟩) "BadPours" ⟨134, 41, 134, 51⟩ ⟨134, 57, 134, 65⟩ ⟨134, 41, 134, 66⟩) .nil) ⟨.function, [(".0", .local), ("one", .local), ("isinstance", .globalImplicit), ("BadPours", .globalImplicit)], false, false, []⟩ [("one", 2)] ⟨134, 17, 134, 67⟩) ⟨134, 4, 134, 16⟩ ⟨134, 4, 134, 68⟩) ⟨134, 4, 134, 68⟩) (.cons (.exs (.app (.v 1 "found" ⟨135, 4, 135, 9⟩) (.cp false (.v 2 "one" ⟨135, 18, 135, 21⟩) (.v 2 "one" ⟨135, 26, 135, 29⟩) (.pl (.v 0 "told" ⟨135, 33, 135, 37⟩)) (.cons (.isx (.v 2 "one" ⟨135, 52, 135, 55⟩) "BadVats" ⟨135, 41, 135, 51⟩ ⟨135, 57, 135, 64⟩ ⟨135, 41, 135, 65⟩) .nil) ⟨.function, [(".0", .local), ("one", .local), ("isinstance", .globalImplicit), ("BadVats", .globalImplicit)], false, false, []⟩ [("one", 2)] ⟨135, 17, 135, 66⟩) ⟨135, 4, 135, 16⟩ ⟨135, 4, 135, 67⟩) ⟨135, 4, 135, 67⟩) (.cons (.exs (.app (.v 1 "found" ⟨136, 4, 136, 9⟩) (.cp false (.v 2 "one" ⟨136, 18, 136, 21⟩) (.v 2 "one" ⟨136, 26, 136, 29⟩) (.pl (.v 0 "told" ⟨136, 33, 136, 37⟩)) (.cons (.isx (.v 2 "one" ⟨136, 52, 136, 55⟩) "BadAccounts" ⟨136, 41, 136, 51⟩ ⟨136, 57, 136, 68⟩ ⟨136, 41, 136, 69⟩) .nil) ⟨.function, [(".0", .local), ("one", .local), ("isinstance", .globalImplicit), ("BadAccounts", .globalImplicit)], false, false, []⟩ [("one", 2)] ⟨136, 17, 136, 70⟩) ⟨136, 4, 136, 16⟩ ⟨136, 4, 136, 71⟩) ⟨136, 4, 136, 71⟩) (.cons (.exs (.app (.v 1 "found" ⟨137, 4, 137, 9⟩) (.cp false (.v 2 "one" ⟨137, 18, 137, 21⟩) (.v 2 "one" ⟨137, 26, 137, 29⟩) (.pl (.v 0 "told" ⟨137, 33, 137, 37⟩)) (.cons (.isx (.v 2 "one" ⟨137, 52, 137, 55⟩) "BadFlights" ⟨137, 41, 137, 51⟩ ⟨137, 57, 137, 67⟩ ⟨137, 41, 137, 68⟩) .nil) ⟨.function, [(".0", .local), ("one", .local), ("isinstance", .globalImplicit), ("BadFlights", .globalImplicit)], false, false, []⟩ [("one", 2)] ⟨137, 17, 137, 69⟩) ⟨137, 4, 137, 16⟩ ⟨137, 4, 137, 70⟩) ⟨137, 4, 137, 70⟩) (.cons (.exs (.app (.v 1 "found" ⟨138, 4, 138, 9⟩) (.cp false (.v 2 "one" ⟨138, 18, 138, 21⟩) (.v 2 "one" ⟨138, 26, 138, 29⟩) (.pl (.v 0 "told" ⟨138, 33, 138, 37⟩)) (.cons (.isx (.v 2 "one" ⟨138, 52, 138, 55⟩) "BadRankings" ⟨138, 41, 138, 51⟩ ⟨138, 57, 138, 68⟩ ⟨138, 41, 138, 69⟩) .nil) ⟨.function, [(".0", .local), ("one", .local), ("isinstance", .globalImplicit), ("BadRankings", .globalImplicit)], false, false, []⟩ [("one", 2)] ⟨138, 17, 138, 70⟩) ⟨138, 4, 138, 16⟩ ⟨138, 4, 138, 71⟩) ⟨138, 4, 138, 71⟩) (.cons (.re (.v 1 "found" ⟨139, 11, 139, 16⟩) ⟨139, 4, 139, 16⟩) .nil))))))))))))))))))))))))))))))))))))
/-- _law_right(pot) -/
def t__law_right : T := (.cons (.as (.v 1 "value" ⟨141, 4, 141, 9⟩) (.cal 4 false "_law_odd" (.cons (.v 0 "pot" ⟨141, 21, 141, 24⟩) .nil) ⟨141, 12, 141, 20⟩ ⟨141, 12, 141, 25⟩) ⟨141, 4, 141, 25⟩) (.cons (.as (.v 2 "told" ⟨142, 4, 142, 8⟩) (.cal 5 false "_law_all_made" (.cons (.v 1 "value" ⟨142, 25, 142, 30⟩) .nil) ⟨142, 11, 142, 24⟩ ⟨142, 11, 142, 31⟩) ⟨142, 4, 142, 31⟩) (.cons (.iff (.nt (.bi .all "all" (.cons (.cp false (.bo .And (.cons (.isx (.v 5 "one" ⟨143, 27, 143, 30⟩) "CellarError" ⟨143, 16, 143, 26⟩ ⟨143, 32, 143, 43⟩ ⟨143, 16, 143, 44⟩) (.cons (.isx (.v 5 "one" ⟨143, 60, 143, 63⟩) "ValueError" ⟨143, 49, 143, 59⟩ ⟨143, 65, 143, 75⟩ ⟨143, 49, 143, 76⟩) .nil)) ⟨143, 16, 143, 76⟩) (.v 5 "one" ⟨143, 81, 143, 84⟩) (.pl (.v 2 "told" ⟨143, 88, 143, 92⟩)) .nil ⟨.function, [(".0", .local), ("one", .local), ("isinstance", .globalImplicit), ("CellarError", .globalImplicit), ("ValueError", .globalImplicit)], false, false, []⟩ [("one", 5)] ⟨143, 15, 143, 93⟩) .nil) ⟨143, 11, 143, 14⟩ ⟨143, 11, 143, 94⟩) ⟨143, 7, 143, 94⟩) (.cons (.re (.c (.bool false) 0 ⟨144, 15, 144, 20⟩) ⟨144, 8, 144, 20⟩) .nil) .nil ⟨143, 4, 144, 20⟩) (.cons (.iff (.nt (.bi .all "all" (.cons (.cp false (.cmp (.shr (.vlu (.v 5 "one" ⟨145, 21, 145, 24⟩) ⟨145, 21, 145, 30⟩) ⟨145, 16, 145, 20⟩ ⟨145, 16, 145, 31⟩) .Eq (.shr (.v 1 "value" ⟨145, 40, 145, 45⟩) ⟨145, 35, 145, 39⟩ ⟨145, 35, 145, 46⟩) ⟨145, 16, 145, 46⟩) (.v 5 "one" ⟨145, 51, 145, 54⟩) (.pl (.v 2 "told" ⟨145, 58, 145, 62⟩)) .nil ⟨.function, [(".0", .local), ("one", .local), ("repr", .globalImplicit), ("value", .free)], false, false, []⟩ [("one", 5)] ⟨145, 15, 145, 63⟩) .nil) ⟨145, 11, 145, 14⟩ ⟨145, 11, 145, 64⟩) ⟨145, 7, 145, 64⟩) (.cons (.re (.c (.bool false) 0 ⟨146, 15, 146, 20⟩) ⟨146, 8, 146, 20⟩) .nil) .nil ⟨145, 4, 146, 20⟩) (.cons (.as (.v 3 "lots" ⟨147, 4, 147, 8⟩) (.cal 6 false "_law_lots" (.cons (.v 2 "told" ⟨147, 21, 147, 25⟩) .nil) ⟨147, 11, 147, 20⟩ ⟨147, 11, 147, 26⟩) ⟨147, 4, 147, 26⟩) (.cons (.iff (.bo .Or (.cons (.nt (.bi .all "all" (.cons (.cp false (.cmp (.bi .len "len" (.cons (.v 6 "lot" ⟨148, 20, 148, 23⟩) .nil) ⟨148, 16, 148, 19⟩ ⟨148, 16, 148, 24⟩) .Eq (.c (.int 1) 0 ⟨148, 28, 148, 29⟩) ⟨148, 16, 148, 29⟩) (.v 6 "lot" ⟨148, 34, 148, 37⟩) (.pl (.v 3 "lots" ⟨148, 41, 148, 45⟩)) .nil ⟨.function, [(".0", .local), ("lot", .local), ("len", .globalImplicit)], false, false, []⟩ [("lot", 6)] ⟨148, 15, 148, 46⟩) .nil) ⟨148, 11, 148, 14⟩ ⟨148, 11, 148, 47⟩) ⟨148, 7, 148, 47⟩) (.cons (.cmp (.cp false (.shr (.ix (.v 6 "lot" ⟨148, 57, 148, 60⟩) (.c (.int 0) 0 ⟨148, 61, 148, 62⟩) ⟨148, 57, 148, 63⟩) ⟨148, 52, 148, 56⟩ ⟨148, 52, 148, 64⟩) (.v 6 "lot" ⟨148, 69, 148, 72⟩) (.pl (.v 3 "lots" ⟨148, 76, 148, 80⟩)) .nil ⟨.function, [(".0", .local), ("lot", .local), ("repr", .globalImplicit)], false, false, []⟩ [("lot", 6)] ⟨148, 51, 148, 81⟩) .NotEq (.cp false (.shr (.v 5 "one" ⟨148, 91, 148, 94⟩) ⟨148, 86, 148, 90⟩ ⟨148, 86, 148, 95⟩) (.v 5 "one" ⟨148, 100, 148, 103⟩) (.pl (.v 2 "told" ⟨148, 107, 148, 111⟩)) .nil ⟨.function, [(".0", .local), ("one", .local), ("repr", .globalImplicit)], false, false, []⟩ [("one", 5)] ⟨148, 85, 148, 112⟩) ⟨148, 51, 148, 112⟩) .nil)) ⟨148, 7, 148, 112⟩) (.cons (.re (.c (.bool false) 0 ⟨149, 15, 149, 20⟩) ⟨149, 8, 149, 20⟩) .nil) .nil ⟨148, 4, 149, 20⟩) (.cons (.as (.v 4 "bare" ⟨150, 4, 150, 8⟩) (.mkx "CellarError" (.v 1 "value" ⟨150, 23, 150, 28⟩) ⟨150, 11, 150, 22⟩ ⟨150, 11, 150, 29⟩) ⟨150, 4, 150, 29⟩) (.cons (.re (.bo .And (.cons (.isx (.v 4 "bare" ⟨151, 22, 151, 26⟩) "ValueError" ⟨151, 11, 151, 21⟩ ⟨151, 28, 151, 38⟩ ⟨151, 11, 151, 39⟩) (.cons (.cmp (.shr (.vlu (.v 4 "bare" ⟨151, 49, 151, 53⟩) ⟨151, 49, 151, 59⟩) ⟨151, 44, 151, 48⟩ ⟨151, 44, 151, 60⟩) .Eq (.shr (.v 1 "value" ⟨151, 69, 151, 74⟩) ⟨151, 64, 151, 68⟩ ⟨151, 64, 151, 75⟩) ⟨151, 44, 151, 75⟩) (.cons (.cmp (.cal 6 false "_law_lots" (.cons (.lst false (.cons (.v 4 "bare" ⟨151, 92, 151, 96⟩) .nil) ⟨151, 91, 151, 97⟩) .nil) ⟨151, 81, 151, 90⟩ ⟨151, 81, 151, 98⟩) .Eq (.bin (.lst false (.cons (.lst false .nil ⟨151, 103, 151, 105⟩) .nil) ⟨151, 102, 151, 106⟩) .Mult (.bi .len "len" (.cons (.v 2 "told" ⟨151, 113, 151, 117⟩) .nil) ⟨151, 109, 151, 112⟩ ⟨151, 109, 151, 118⟩) ⟨151, 102, 151, 118⟩) ⟨151, 81, 151, 118⟩) .nil))) ⟨151, 11, 151, 119⟩) ⟨151, 4, 151, 119⟩) .nil))))))))
/-- law(script) -/
def t_law : T := (.cons (.re (.bi .all "all" (.cons (.cp false (.cal 7 false "_law_right" (.cons (.cal 0 true "_law_pot" (.cons (.v 0 "script" ⟨153, 36, 153, 42⟩) (.cons (.v 1 "place" ⟨153, 44, 153, 49⟩) .nil)) ⟨153, 27, 153, 35⟩ ⟨153, 27, 153, 50⟩) .nil) ⟨153, 16, 153, 26⟩ ⟨153, 16, 153, 51⟩) (.v 1 "place" ⟨153, 56, 153, 61⟩) (.pl (.cal 3 false "_law_cells" (.cons (.v 0 "script" ⟨153, 76, 153, 82⟩) (.cons (.c (.int 3) 0 ⟨153, 84, 153, 85⟩) .nil)) ⟨153, 65, 153, 75⟩ ⟨153, 65, 153, 86⟩)) .nil ⟨.function, [(".0", .local), ("place", .local), ("_law_right", .globalImplicit), ("_law_pot", .globalImplicit), ("script", .free)], false, false, []⟩ [("place", 1)] ⟨153, 15, 153, 87⟩) .nil) ⟨153, 11, 153, 14⟩ ⟨153, 11, 153, 88⟩) ⟨153, 4, 153, 88⟩) .nil)
def gls : List P := []
def wd : Wd := ⟨gls, [], ["_law_pot", "_law_take", "_law_of", "_law_cells", "_law_odd", "_law_all_made", "_law_lots", "_law_right", "law"], (List.append (α := Str) ["BadRankings", "BadFlights", "BadAccounts", "BadVats", "BadPours", "BadJugs", "BadLabels", "BadScales", "BadBottles", "BadCrates", "BadWeights", "BadFound", "BadFillings", "BadTaints", "BadRackings", "BadLine", "BadJournal", "NothingToRedo", "NothingToUndo", "Unknown", "Full", "TooMany", "Unlike", "BadShares", "BadBlend", "BadParts", "BadRooms", "BadRoom", "BadPlan", "BadOrders"] ["BadCasks", "BadWines", "BadWine", "BadInt", "CellarError"])⟩
def ds : List Df := [⟨t__law_pot, 2, 5⟩, ⟨t__law_take, 2, 5⟩, ⟨t__law_of, 2, 2⟩, ⟨t__law_cells, 2, 2⟩, ⟨t__law_odd, 1, 2⟩, ⟨t__law_all_made, 1, 2⟩, ⟨t__law_lots, 1, 3⟩, ⟨t__law_right, 1, 7⟩, ⟨t_law, 1, 2⟩]
end K10
end
section
set_option linter.all false
set_option maxRecDepth 100000
set_option maxHeartbeats 2000000
namespace K10
open PySem Mi
/-! the draws (draws.tpl) -/
theorem c_take (k N : Nat) (p : Pot) (u : Int) (h : Gp N p) (hN : N < 1000000) (hu : 0 < u ∧ u < 1073741824) : ∃ d q, callK gls ds (k+1) 1 [.r 0, .p (.int u)] [p.o] = .ok (.p (.int d)) [q.o] ∧ 0 ≤ d ∧ d < u ∧ Gp (N + 1) q := by
  obtain ⟨a0, b0, b1, c0, c1⟩ := h
  obtain ⟨a, b, c⟩ := p
  simp only at a0 b0 b1 c0 c1
  rw [callK_at (d := ⟨t__law_take, 2, 5⟩) rfl rfl]
  by_cases ha : 0 < a
  · have m1 : a % u < u := Int.emod_lt_of_pos _ hu.1
    have m2 : 0 ≤ a % u := Int.emod_nonneg _ (by omega)
    refine ⟨a % u, ⟨a / u, b, c⟩, ?_, m2, m1, ⟨?_, b0, b1, c0, by show c ≤ _; omega⟩⟩
    · have s0 : ∀ (x : P), setIx (.r 0) (.p (.int 0)) (.p x) [.lp 0 [.int a, .int b, .int c]] = some [.lp 0 [x, .int b, .int c]] := fun x => by simp [setIx, L2.ixN]
      simp [t__law_take, Pot.o, ixV_r0, ha, b_mod hu.1, div_ok hu, s0]
    · exact Int.ediv_nonneg a0 (by omega)
  · have hz : a = 0 := by omega
    subst hz
    obtain ⟨pm, hp, p1, p2⟩ : ∃ pm : Int, L2.atI [PyData.int 2147483647, .int 2147483629, .int 2147483587, .int 2147483579, .int 2147483563] ((c + 1) % 5) = some (.int pm) ∧ 2147483563 ≤ pm ∧ pm ≤ 2147483647 := by
      have q : (c + 1) % 5 = ((0 : Nat) : Int) ∨ (c + 1) % 5 = ((1 : Nat) : Int) ∨ (c + 1) % 5 = ((2 : Nat) : Int) ∨ (c + 1) % 5 = ((3 : Nat) : Int) ∨ (c + 1) % 5 = ((4 : Nat) : Int) := by omega
      rcases q with q | q | q | q | q <;> rw [q] <;> exact ⟨_, at_nat (by simp), by simp, by simp⟩
    have hcc : c + 1 ≤ 1000000 := by omega
    have s2 : ∀ (x : P), setIx (.r 0) (.p (.int 2)) (.p x) [.lp 0 [.int 0, .int b, .int c]] = some [.lp 0 [.int 0, .int b, x]] := fun x => by simp [setIx, L2.ixN]
    have q1 : 0 ≤ 95257 * (c + 1) * (c + 1) ∧ 95257 * (c + 1) * (c + 1) ≤ 95257 * 1000000 * 1000000 := by
      refine ⟨Int.mul_nonneg (by omega) (by omega), ?_⟩
      exact Int.mul_le_mul (by omega) hcc (by omega) (by omega)
    have l5 : mkLstV false [Vl.p (.int 2147483647), .p (.int 2147483629), .p (.int 2147483587), .p (.int 2147483579), .p (.int 2147483563)] = fun s => .ok (.p (.list [.int 2147483647, .int 2147483629, .int 2147483587, .int 2147483579, .int 2147483563])) s := by
      funext s
      exact mkLstV_ps (xs := [.int 2147483647, .int 2147483629, .int 2147483587, .int 2147483579, .int 2147483563]) (by decide)
    generalize hX : b + 95257 * (c + 1) * (c + 1) + 3163 = Xx at *
    have x1 : 0 ≤ Xx ∧ Xx < 18446744073709551616 := by omega
    have r1 : 0 ≤ Xx ^ 3 % pm := Int.emod_nonneg _ (by omega)
    have r2 : Xx ^ 3 % pm < pm := Int.emod_lt_of_pos _ (by omega)
    generalize hY : Xx ^ 3 % pm = Y at *
    have r3 : 0 ≤ Y % 13441 ∧ Y % 13441 < 13441 := ⟨Int.emod_nonneg _ (by omega), Int.emod_lt_of_pos _ (by omega)⟩
    have m5 : binP .Mult (.int Y) (.int (Y % 13441 + 419 * (c + 1))) = some (.int (Y * (Y % 13441 + 419 * (c + 1)))) := muL_ok (by omega)
    refine ⟨Y * (Y % 13441 + 419 * (c + 1)) % 2305843009213693907 / 229 % u, ⟨0, b, c + 1⟩, ?_, Int.emod_nonneg _ (by omega), Int.emod_lt_of_pos _ hu.1, ⟨Int.le_refl _, b0, b1, by show 0 ≤ c + 1; omega, by show c + 1 ≤ _; omega⟩⟩
    have m1 : binP .Mult (.int 95257) (.int (c + 1)) = some (.int (95257 * (c + 1))) := muL_ok (by omega)
    have m2 : binP .Mult (.int (95257 * (c + 1))) (.int (c + 1)) = some (.int (95257 * (c + 1) * (c + 1))) := muL_ok (by omega)
    have m3 : binP .Mult (.int 419) (.int (c + 1)) = some (.int (419 * (c + 1))) := muL_ok (by omega)
    have m4 : binP .Pow (.int Xx) (.int 3) = some (.int (Xx ^ 3)) := pow_ok x1 (by omega)
    have d1 : ∀ x, binP .Mod (.int x) (.int u) = some (.int (x % u)) := fun x => b_mod hu.1
    have d2 : ∀ x, binP .Mod (.int x) (.int pm) = some (.int (x % pm)) := fun x => b_mod (by omega)
    have d3 : ∀ x, binP .Mod (.int x) (.int 5) = some (.int (x % 5)) := fun x => b_mod (by omega)
    have d4 : ∀ x, binP .Mod (.int x) (.int 13441) = some (.int (x % 13441)) := fun x => b_mod (by omega)
    have d5 : ∀ x, binP .Mod (.int x) (.int 2305843009213693907) = some (.int (x % 2305843009213693907)) := fun x => b_mod (by omega)
    have d6 : ∀ x, binP .FloorDiv (.int x) (.int 229) = some (.int (x / 229)) := fun x => div_ok (by omega)
    simp [t__law_take, Pot.o, ixV_r0, s2, d1, d2, d3, d4, d5, d6, m1, m2, m3, hX, m4, hY, m5, hp, l5]
theorem w_take (k N : Nat) (p : Pot) (u : Int) (h : Gp N p) (hN : N < 1000000) (hu : 0 < u ∧ u < 1073741824) : ∃ d q, 0 ≤ d ∧ d < u ∧ Gp (N + 1) q ∧ ∀ (n : Nat) (s : Sr) (m : Bool), s[n]? = some p.o → callW (callK gls ds (k+1) 1) m [.r n, .p (.int u)] s = .ok (.p (.int d)) (s.set n q.o) := by
  obtain ⟨d, q, h1, h2, h3, h4⟩ := c_take k N p u h hN hu
  exact ⟨d, q, h2, h3, h4, fun n s m hs => callW_r2 hs (plain_o p) h1⟩
theorem w_of (k N : Nat) (p : Pot) (xs : List P) (h : Gp N p) (hN : N < 1000000) (hu : 0 < xs.length ∧ xs.length < 1000) : ∃ (i : Nat) (q : Pot) (hi : i < xs.length), Gp (N + 1) q ∧ ∀ (n : Nat) (s : Sr) (m : Bool), s[n]? = some p.o → callW (callK gls ds (k+2) 2) m [.r n, .p (.list xs)] s = .ok (.p xs[i]) (s.set n q.o) := by
  obtain ⟨d, q, h1, h2, h3, h4⟩ := w_take k N p xs.length h hN (by omega)
  obtain ⟨i, rfl⟩ : ∃ i : Nat, d = i := ⟨d.toNat, by omega⟩
  have hi : i < xs.length := by omega
  refine ⟨i, q, hi, h3, fun n s m hs => callW_r2 hs (plain_o p) (t := []) ?_⟩
  rw [callK_at (d := ⟨t__law_of, 2, 2⟩) rfl rfl]
  have e1 := h4 0 [p.o] false rfl
  simp [t__law_of, e1, at_nat hi]
theorem c_cells (k most : Nat) (hm : most ≤ 10) (xs : List P) (st : Sr) : callK gls ds (k+1) 3 [.p (.list xs), .p (.int (most : Nat))] st = .ok (.p (.list (rng 0 1 (max 1 (min most xs.length))))) st := by
  rw [callK_at (d := ⟨t__law_cells, 2, 2⟩) rfl rfl]
  have e : (if (if (xs.length : Int) < (most : Nat) then (xs.length : Int) else (most : Nat)) > 1 then (if (xs.length : Int) < (most : Nat) then (xs.length : Int) else (most : Nat)) else 1) = ((max 1 (min most xs.length) : Nat) : Int) := by omega
  have l' := lrgP_1 (max 1 (min most xs.length)) (by omega)
  rw [← e] at l'
  simp at l'
  simp [t__law_cells, l']
theorem c_pot (k : Nat) (ns : List Int) (j : Nat) (hj : j < 10) : ∃ (p : Pot), callK gls ds (k+1) 0 [.p (.list (ns.map .int)), .p (.int (j : Nat))] [] = .ok (.r 0) [p.o] ∧ Gp 0 p := by
  rw [callK_at (d := ⟨t__law_pot, 2, 5⟩) rfl rfl]
  obtain ⟨cell, hc⟩ : ∃ cell : Int, (sem gls (callK gls ds k) (sti t__law_pot 0)).s [some (.p (.list (ns.map .int))), some (.p (.int (j : Nat))), none, none, none] [] = .nx [some (.p (.list (ns.map .int))), some (.p (.int (j : Nat))), some (.p (.int cell)), none, none] [] := by
    by_cases h : j < ns.length
    · refine ⟨ns[j], ?_⟩
      have e1 : L2.atI (ns.map PyData.int) (j : Int) = some (.int ns[j]) := by rw [at_nat (by simpa using h)]; simp
      simp [t__law_pot, sti, h, e1]
    · refine ⟨(ns.take 1).sum % 1000211 + 4639 * j + 3163, ?_⟩
      have e1 : binP .Mult (.int 4639) (.int (j : Nat)) = some (.int (4639 * j)) := muL_ok (by omega)
      have e2 : ∀ x, binP .Mod (.int x) (.int 1000211) = some (.int (x % 1000211)) := fun x => b_mod (by omega)
      have e3 : cut (ns.map PyData.int) none (some 1) = (ns.take 1).map .int := by
        rw [show (1 : Int) = ((1 : Nat) : Int) by rfl, cut_take, List.map_take]
      simp [t__law_pot, sti, h, e1, e2, e3, -List.map_take]
  have r : ∀ (e : En) (s : Sr), (sem gls (callK gls ds k) t__law_pot).s e s = ((sem gls (callK gls ds k) (sti t__law_pot 0)).s e s).th (sem gls (callK gls ds k) (tlT t__law_pot)).s := fun e s => rfl
  rw [r]
  have hc' := hc
  simp only [List.map_cons, List.map_nil, List.cons_append, List.nil_append, List.replicate] at hc' ⊢
  rw [hc', th_nx]
  have p1 : binP .Pow (.int 10) (.int 60) = some (.int ((10 : Int) ^ 60)) := pow_ok (by omega) (by omega)
  have p3 : binP .Pow (.int 10) (.int 18) = some (.int ((10 : Int) ^ 18)) := pow_ok (by omega) (by omega)
  generalize hB : ((10 : Int) ^ 18) = B at p3
  have p2 : ∃ A : Int, binP .Pow (.int ((10 : Int) ^ 60)) (.int 5) = some (.int A) ∧ 0 < A := ⟨((10 : Int) ^ 60) ^ 5, b_pow ⟨by omega, .inr (by decide)⟩, by decide⟩
  obtain ⟨A, p2, A0⟩ := p2
  generalize ((10 : Int) ^ 60) = Z at p1 p2
  have d1 : ∀ x, binP .Mod (.int x) (.int A) = some (.int (x % A)) := fun x => b_mod A0
  have d2 : ∀ x, binP .Mod (.int x) (.int 2305843009213693951) = some (.int (x % 2305843009213693951)) := fun x => b_mod (by omega)
  have d3 : ∀ x, binP .Mod (.int x) (.int 2305843009213693921) = some (.int (x % 2305843009213693921)) := fun x => b_mod (by omega)
  generalize hab : (if cell < 0 then -cell else cell) = ab at *
  have m0 : ∀ (x : Int), binP .Mult (.int x) (.int (if B ≤ ab then 1 else 0)) = some (.int (x * (if B ≤ ab then 1 else 0))) := fun x => b_mul (.inr (.inl (by split <;> omega)))
  have m9 : ∀ (x y z : P) (s : Sr), mkLstV true [.p x, .p y, .p z] s = .ok (.r s.length) (s ++ [.lp 0 [x, y, z]]) := fun x y z s => by
    have : (3 : Nat) ≤ lim := by decide
    simp [mkLstV, mkLst, this]
  have m1 : ∀ x, binP .Mult (.int x) (.int 72161) = some (.int (x * 72161)) := fun x => b_mul (.inr (.inl (by omega)))
  have m2 : binP .Mult (.int 10853) (.int (j : Nat)) = some (.int (10853 * j)) := muL_ok (by omega)
  have m3 : binP .Mult (.int (10853 * j)) (.int (j : Nat)) = some (.int (10853 * j * j)) := muL_ok (by omega)
  refine ⟨⟨ab % A * (if decide (B ≤ ab) = true then 1 else 0), (cell % 2305843009213693951 * 72161 + 10853 * j * j + 2843) % 2305843009213693921, 0⟩, ?_, ?_, Int.emod_nonneg _ (by omega), ?_, by simp, by simp⟩
  · simp [tlT, t__law_pot, p1, p2, p3, d1, d2, d3, m0, m1, m2, m3, m9, hab, Pot.o]
  · refine Int.mul_nonneg (Int.emod_nonneg _ (by omega)) ?_
    split <;> omega
  · have := Int.emod_lt_of_pos (cell % 2305843009213693951 * 72161 + 10853 * j * j + 2843) (b := 2305843009213693921) (by omega)
    simp only
    omega
end K10
end
section
set_option linter.all false
set_option maxRecDepth 100000
/-! E5: simp for errors, repr. -/
namespace Mi
open PySem
section
variable {gl : List P} {F : Nat → List Vl → Sr → R Vl} {e : En} {s : Sr}
@[simp] theorem s_isx_e {a : T} {D : Str} {p0 p1 p : Pos} : (sem gl F (.isx a D p0 p1 p)).e = fun e s => op1 (fun x => blP (isxP D x)) ((sem gl F a).e e s) := rfl
@[simp] theorem s_vlu_e {a : T} {p : Pos} : (sem gl F (.vlu a p)).e = fun e s => op1 valP ((sem gl F a).e e s) := rfl
@[simp] theorem s_mkx_e {c : Str} {a : T} {p0 p : Pos} : (sem gl F (.mkx c a p0 p)).e = fun e s => ((sem gl F a).e e s).bd (mkxV c) := rfl
@[simp] theorem s_shr_e {a : T} {p0 p : Pos} : (sem gl F (.shr a p0 p)).e = fun e s => op1 (fun x => (shw x).map .str) ((sem gl F a).e e s) := rfl
@[simp] theorem s_dv0_e {p : Pos} : (sem gl F (.dv0 p)).e = eDv0 := rfl
@[simp] theorem s_dvc_e {k v : Const} {kk vk : Nat} {kp vp p : Pos} : (sem gl F (.dvc k kk kp v vk vp p)).e = eDvc k v := rfl
@[simp] theorem s_rax_s {c : Str} {a : T} {p0 p1 p : Pos} : (sem gl F (.rax c a p0 p1 p)).s = fun e s => ((sem gl F a).e e s).bx (rxV c) := rfl
@[simp] theorem mkxV_p {c : Str} {x : P} : mkxV c (.p x) s = .ok (.p (exP c x [])) s := rfl
@[simp] theorem rxV_p {c : Str} {x : P} : rxV c (.p x) s = .ex c x s := rfl
@[simp] theorem isx_ex {D c : Str} {x : P} {q : List (P × P)} : isxP D (exP c x q) = some (decide (c = D) || D == "CellarError" || D == "ValueError") := rfl
@[simp] theorem isx_n {D : Str} : isxP D .none = some false := rfl
@[simp] theorem val_ex {c : Str} {x : P} {q : List (P × P)} : valP (exP c x q) = some x := rfl
@[simp] theorem eDv0_ok : eDv0 e s = .ok (.p (.dict [])) s := rfl
theorem mkLstV_t {xs : List P} (h : xs.length ≤ lim) : mkLstV true (xs.map .p) s = .ok (.r s.length) (s ++ [.lp 0 xs]) := by simp [mkLstV, mkLst, h]
theorem b_addLL {xs ys : List P} (h : xs.length + ys.length ≤ lim) : binP .Add (.list xs) (.list ys) = some (.list (xs ++ ys)) := if_pos h
theorem shw_of {x : P} (h : tgOf x ≠ .x) (o : okShw x = true) : shw x = some x.shown := by
  unfold shw
  split
  · exact absurd rfl h
  · exact absurd rfl h
  · unfold shwD; rw [if_pos o]
theorem shw_ex {c : Str} {x : P} (o : okShw x = true) (z : (shwX c x.shown).length ≤ lim) : shw (exP c x []) = some (shwX c x.shown) := by
  unfold shw exP
  simp only [shwD, if_pos o, if_pos z]
theorem cp_mapv {E : Sm} {i j : Nat} {n1 n2 : Str} {ts : List P} {p1 p2 : Pos} (f : P → P) (hl : ts.length ≤ lim) (hj : e[j]? = some (some (.p (.list ts)))) (h : ∀ t ∈ ts, E.e ((wipeE e [i]).set i (some (.p t))) s = .ok (.p (f t)) s) :
    eCp false E (sem gl F (.v i n1 p1)) (sem gl F (.pl (.v j n2 p2))) (sem gl F .nil) [i] e s = .ok (.p (.list (ts.map f))) s := by
  have q := cpL_map (tg := kV i) (cond := cnd (sem gl F .nil)) (elt := E.e) (e := wipeE e [i]) (s := s) (fun v => match v with | .p t => f t | .r _ => .none) (ts.map .p) (by
    intro v hv
    obtain ⟨t, ht, rfl⟩ := List.mem_map.mp hv
    exact ⟨_, rfl, rfl, h t ht⟩)
  have e1 : (ts.map Vl.p).map (fun v => match v with | .p t => f t | .r _ => .none) = ts.map f := by
    rw [List.map_map]; rfl
  rw [e1] at q
  have it : (sem gl F (.pl (.v j n2 p2))).i e s = .ok (.inl (ts.map .p)) s := by
    show ((sem gl F (.v j n2 p2)).e e s).bd (fun v s => itOf v s) = _
    have : (sem gl F (.v j n2 p2)).e e s = .ok (.p (.list ts)) s := by
      show eV j e s = _
      unfold eV
      rw [hj]
    rw [this]
    rfl
  unfold eCp
  rw [it]
  show (cpAll (sem gl F (.v i n1 p1)) (sem gl F .nil) E (wipeE e [i]) (.inl (ts.map .p)) s).bd _ = _
  have a : cpAll (sem gl F (.v i n1 p1)) (sem gl F .nil) E (wipeE e [i]) (.inl (ts.map .p)) s = .ok (ts.map f) s := (if_pos (by simpa using hl)).trans q
  rw [a]
  rfl
end
end Mi
end
section
set_option linter.all false
set_option maxRecDepth 100000
set_option maxHeartbeats 4000000
namespace K10
open PySem Mi
/-- the values of any kind -/
def odds : List P := [.none, .bool true, .bool false, .int 0, .int 1, .int (-1), .int 33, .int (10 ^ 20), .str "", .str "pours", .str "lot", .str "crowd", .tuple [], .list [], .dict [], .tuple [.int 0], .tuple [.tuple []], .list [.int 1],
  .tuple [.int 1, .int 0], .tuple [.int 0, .int 1], .tuple [.none], .dict [(.str "a", .int 1)], .tuple [.tuple [.int 1], .tuple [.int 2]], .tuple [.int 2, .int 1], .tuple [.int 1, .int 1, .int 1], .tuple [.tuple [.bool true]], .tuple [.str "crowd", .int 0], .tuple [.int 2, .int 1, .int 0]]
def okO (x : P) : Bool := okShw x && decide (x.shown.length ≤ 1000) && (match tgOf x with | .x => false | _ => true)
theorem odds_ok : odds.all okO = true := by decide +kernel
theorem key_a : key? (.p (.str "a")) = some (.str "a") := rfl
theorem c_odd (k : Nat) (p : Pot) (h : Gp 0 p) : ∃ (x : P) (q : Pot), x ∈ odds ∧ Gp 1 q ∧ callK gls ds (k+3) 4 [.r 0] [p.o] = .ok (.p x) [q.o, .lp 0 (odds.take 19)] := by
  obtain ⟨i, q, hi, hq, hc⟩ := w_of k 0 p odds h (by omega) (by decide)
  refine ⟨odds[i], q, List.getElem_mem hi, hq, ?_⟩
  rw [callK_at (d := ⟨t__law_odd, 1, 2⟩) rfl rfl]
  generalize hr : endX _ = r
  have e20 : binP .Pow (.int 10) (.int 20) = some (.int (10 ^ 20)) := pow_ok (by omega) (by omega)
  have w := hc 0 [p.o, .lp 0 (odds.take 19)] false rfl
  have l1 : mkLstV false [Vl.p (.int 1)] = fun s => .ok (.p (.list [.int 1])) s := by
    funext s; exact mkLstV_ps (xs := [.int 1]) (by decide)
  have l2 : ∀ s, mkLstV true ((odds.take 18).map .p) s = .ok (.r s.length) (s ++ [.lp 0 (odds.take 18)]) := fun s => mkLstV_t (by decide)
  have l3 : ∀ s, mkLstV false ((odds.drop 19).map .p) s = .ok (.p (.list (odds.drop 19))) s := fun s => mkLstV_ps (by decide)
  have a1 : appV (.r 1) (.p (.tuple [.int 1, .int 0])) [p.o, .lp 0 (odds.take 18)] = some [p.o, .lp 0 (odds.take 19)] := app_lp (xs := odds.take 18) (by simp) (by decide)
  have b1 : binP .Add (.list (odds.take 19)) (.list (odds.drop 19)) = some (.list odds) := by
    rw [b_addLL (by decide), List.take_append_drop]
  have d1 : dd (.r 1) [p.o, .lp 0 (odds.take 19)] = some (.list (odds.take 19)) := rfl
  simp [odds] at l2 l3 a1 b1 w d1
  simp [t__law_odd, e20, eDvc, ofC, key_a, l1, l2, l3, a1, b1, w, d1] at hr
  rw [← hr]
  simp [odds]
def nms : List Str := List.append (α := Str) ["BadInt", "BadWine", "BadWines", "BadCasks", "BadOrders", "BadPlan", "BadRoom", "BadRooms", "BadParts", "BadBlend", "BadShares", "Unlike", "TooMany", "Full", "Unknown", "NothingToUndo"]
  ["NothingToRedo", "BadJournal", "BadLine", "BadRackings", "BadTaints", "BadFillings", "BadFound", "BadWeights", "BadCrates", "BadBottles", "BadScales", "BadLabels", "BadJugs", "BadPours", "BadVats", "BadAccounts", "BadFlights", "BadRankings"]
def mad (x : P) : List P := nms.map fun c => exP c x []
theorem c_made (k : Nat) (x : P) : callK gls ds (k+1) 5 [.p x] [] = .ok (.p (.list (mad x))) [] := by
  rw [callK_at (d := ⟨t__law_all_made, 1, 2⟩) rfl rfl]
  generalize hr : endX _ = r
  have l3 : ∀ s, mkLstV false ((mad x).map .p) s = .ok (.p (.list (mad x))) s := fun s => mkLstV_ps (by unfold mad; rw [List.length_map]; decide)
  simp [mad, nms] at l3
  simp [t__law_all_made, l3] at hr
  rw [← hr]
  simp [mad, nms]
theorem w_made (k : Nat) (x : P) (s : Sr) : callW (callK gls ds (k+1) 5) false [.p x] s = .ok (.p (.list (mad x))) s := callW_p1 (c_made k x)
/-- those of some that are D -/
def lotD (D : Str) (ts : List P) : List P := ts.filter fun t => isxP D t == some true
def lots (ts : List P) : List P := nms.map fun D => .list (lotD D ts)
theorem cp_lot {D : Str} {ts : List P} (hl : ts.length ≤ lim) (hx : ∀ t ∈ ts, ∃ b, isxP D t = some b) {gl : List P} {F : Nat → List Vl → Sr → R Vl} {x1 x2 : Option Vl} {s : Sr} {p1 p2 p3 p4 p5 p6 p7 : Pos} :
    eCp false (sem gl F (.v 2 "one" p1)) (sem gl F (.v 2 "one" p2)) (sem gl F (.pl (.v 0 "told" p3))) (sem gl F (.cons (.isx (.v 2 "one" p4) D p5 p6 p7) .nil)) [2] [some (.p (.list ts)), x1, x2] s = .ok (.p (.list (lotD D ts))) s := by
  have h := cpL_fm (tg := kV 2) (cond := cnd (sem gl F (.cons (.isx (.v 2 "one" p4) D p5 p6 p7) .nil))) (elt := eV 2) (e := [some (.p (.list ts)), x1, none]) (s := s) (fun v => match v with | .p t => if isxP D t == some true then some t else none | .r _ => none) (ts.map .p) (by
    intro v hv
    obtain ⟨t, ht, rfl⟩ := List.mem_map.mp hv
    obtain ⟨b, hb⟩ := hx t ht
    refine ⟨_, rfl, ?_⟩
    cases b with
    | false => exact .inl ⟨by simp [hb], by simp [cnd, hb]⟩
    | true => exact .inr ⟨t, by simp [hb], by simp [cnd, hb], by simp⟩)
  have e1 : (ts.map Vl.p).filterMap (fun v => match v with | .p t => if isxP D t == some true then some t else none | .r _ => none) = lotD D ts := by
    unfold lotD
    clear h hx hl
    induction ts with
    | nil => rfl
    | cons t ts ih =>
      rw [List.map_cons, List.filterMap_cons, List.filter_cons, ← ih]
      by_cases q : (isxP D t == some true) = true
      · simp [q]
      · simp [q]
  rw [e1] at h
  have h' : cpAll (sem gl F (.v 2 "one" p2)) (sem gl F (.cons (.isx (.v 2 "one" p4) D p5 p6 p7) .nil)) (sem gl F (.v 2 "one" p1)) [some (.p (.list ts)), x1, none] (.inl (ts.map .p)) s = .ok (lotD D ts) s := by
    exact (if_pos (by simpa using hl)).trans h
  simp [eCp, wipeE, h', mkLst]
theorem st_lot {D : Str} {ts xs : List P} (hl : ts.length ≤ lim) (hz : xs.length < lim) (hx : ∀ D : Str, ∀ t ∈ ts, ∃ b, isxP D t = some b) {gl : List P} {F : Nat → List Vl → Sr → R Vl} {x : Option Vl} {sc : Scope} {p1 p2 p3 p4 p5 p6 p7 p8 q1 q2 q3 q4 : Pos} :
    (sem gl F (.exs (.app (.v 1 "found" q1) (.cp false (.v 2 "one" p1) (.v 2 "one" p2) (.pl (.v 0 "told" p3)) (.cons (.isx (.v 2 "one" p4) D p5 p6 p7) .nil) sc [("one", 2)] p8) q2 q3) q4)).s [some (.p (.list ts)), some (.r 0), x] [.lp 0 xs] =
      .nx [some (.p (.list ts)), some (.r 0), x] [.lp 0 (xs ++ [.list (lotD D ts)])] := by
  have h := cp_lot (D := D) hl (hx D) (gl := gl) (F := F) (x1 := some (.r 0)) (x2 := x) (s := [.lp 0 xs]) (p1 := p1) (p2 := p2) (p3 := p3) (p4 := p4) (p5 := p5) (p6 := p6) (p7 := p7)
  have a := app_lp (n := 0) (x := .list (lotD D ts)) (s := [.lp 0 xs]) (by simp) hz
  simp at h a
  simp [h, a]
theorem c_lots (k : Nat) {ts : List P} (hl : ts.length ≤ lim) (hx : ∀ D : Str, ∀ t ∈ ts, ∃ b, isxP D t = some b) : callK gls ds (k+1) 6 [.p (.list ts)] [] = .ok (.r 0) [.lp 0 (lots ts)] := by
  rw [callK_at (d := ⟨t__law_lots, 1, 3⟩) rfl rfl]
  have st := @st_lot
  generalize hr : endX _ = r
  have L : ∀ {n : Nat}, n ≤ 34 → n < lim := fun h => by unfold lim; omega
  simp only [t__law_lots, s_cons_s] at hr
  have z : ∀ {p1 p2 p3 : Pos}, (sem gls (callK gls ds k) (.as (.v 1 "found" p1) (.lst true .nil p2) p3)).s (List.map some [Vl.p (.list ts)] ++ List.replicate (3 - 1) none) [] = .nx [some (.p (.list ts)), some (.r 0), none] [.lp 0 []] := fun {p1 p2 p3} => by simp [mkLst]
  rw [z, th_nx] at hr
  iterate 34 (rw [st_lot hl (by simp only [List.length_append, List.length_cons, List.length_nil]; exact L (by omega)) hx, th_nx] at hr)
  simp at hr
  rw [← hr]
  simp [lots, nms]
theorem w_lots (k : Nat) {ts : List P} (hl : ts.length ≤ lim) (hx : ∀ D : Str, ∀ t ∈ ts, ∃ b, isxP D t = some b) (s : Sr) : callW (callK gls ds (k+1) 6) false [.p (.list ts)] s = .ok (.p (.list (lots ts))) s := by
  have h := c_lots k hl hx
  simp [callW, refs, inArgs, h, back]
end K10
end
section
set_option linter.all false
set_option maxRecDepth 100000
set_option maxHeartbeats 4000000
namespace K10
open PySem Mi
theorem strs_ok : odds.all (fun x => nms.all fun D => PyData.canLay0 (.str (shwX D x.shown))) = true := by decide +kernel
theorem nms_ok : nms.all (fun D => (nms.filter fun c => decide (c = D) || D == "CellarError" || D == "ValueError") == [D] && !(decide (("CellarError" : Str) = D) || D == "CellarError" || D == "ValueError") && decide ((excN D).length ≤ 100)) = true := by decide +kernel
end K10
end
section
set_option linter.all false
set_option maxRecDepth 100000
set_option maxHeartbeats 4000000
namespace K10
open PySem Mi
theorem all_tr (ts : List P) : ∃ bs : List Bool, (ts.map fun _ => PyData.bool true) = bs.map .bool ∧ bs.all id = true := ⟨ts.map fun _ => true, by rw [List.map_map]; rfl, by simp⟩
theorem lay_strs : ∀ ys : List Str, (∀ y ∈ ys, PyData.canLay0 (.str y) = true) → PyData.canLayAll0 (ys.map .str) = true ∧ PyData.depthAll (ys.map .str) = 0
  | [], _ => ⟨by simp [PyData.canLayAll0], by simp [PyData.depthAll]⟩
  | y :: ys, h => by
    obtain ⟨h1, h2⟩ := lay_strs ys fun z hz => h z (List.mem_cons_of_mem _ hz)
    exact ⟨by simp [PyData.canLayAll0, h y List.mem_cons_self, h1], by simp [PyData.depthAll, PyData.depth, h2]⟩
theorem ne_strs {ys : List Str} (h : ∀ y ∈ ys, PyData.canLay0 (.str y) = true) : cmpP .NotEq (.list (ys.map .str)) (.list (ys.map .str)) = some false := by
  obtain ⟨h1, h2⟩ := lay_strs ys h
  have s1 : sh (.list (ys.map .str)) = true := by
    show (PyData.canLay0 (.list (ys.map .str)) && decide ((PyData.list (ys.map .str)).depth ≤ 64)) = true
    simp [PyData.canLay0, h1, PyData.depth, h2]
  show (if (sh (.list (ys.map .str)) && sh (.list (ys.map .str))) = true then some (!PyData.eqv (.list (ys.map .str)) (.list (ys.map .str))) else none) = _
  rw [s1]
  show some (!PyData.eqv (.list (ys.map .str)) (.list (ys.map .str))) = _
  rw [SeqAt.eqv_refl _ (by simpa [PyData.canLay0] using h1)]
  rfl
theorem nm_at {D : Str} (h : D ∈ nms) : (nms.filter fun c => decide (c = D) || D == "CellarError" || D == "ValueError") = [D] ∧ (decide (("CellarError" : Str) = D) || D == "CellarError" || D == "ValueError") = false ∧ (excN D).length ≤ 100 := by
  have := List.all_eq_true.mp nms_ok D h
  simp only [Bool.and_eq_true, Bool.not_eq_true', beq_iff_eq, decide_eq_true_eq] at this
  exact ⟨this.1.1, this.1.2, this.2⟩
theorem lot_mad {D : Str} (h : D ∈ nms) (x : P) : lotD D (mad x) = [exP D x []] := by
  unfold lotD mad
  rw [List.filter_map]
  have e : (fun t => isxP D t == some true) ∘ (fun c => exP c x []) = fun c => decide (c = D) || D == "CellarError" || D == "ValueError" := by
    funext c
    show (isxP D (exP c x []) == some true) = _
    rw [isx_ex]
    cases (decide (c = D) || D == "CellarError" || D == "ValueError") <;> rfl
  rw [e, (nm_at h).1]
  rfl
theorem lots_mad (x : P) : lots (mad x) = nms.map fun D => .list [exP D x []] := List.map_congr_left fun D h => by rw [lot_mad h]
theorem lots_bare (x : P) : lots [exP "CellarError" x []] = nms.map fun _ => .list [] := List.map_congr_left fun D h => by
  unfold lotD
  rw [List.filter_cons, isx_ex, (nm_at h).2.1]
  rfl
theorem is_mad (x : P) : ∀ D : Str, ∀ t ∈ mad x, ∃ b, isxP D t = some b := fun D t ht => by
  obtain ⟨c, _, rfl⟩ := List.mem_map.mp ht
  exact ⟨_, isx_ex⟩
theorem len_mad (x : P) : (mad x).length = 34 := by unfold mad; rw [List.length_map]; rfl
theorem okO_at {x : P} (h : x ∈ odds) : tgOf x ≠ .x ∧ okShw x = true ∧ x.shown.length ≤ 1000 := by
  have := List.all_eq_true.mp odds_ok x h
  unfold okO at this
  simp only [Bool.and_eq_true, decide_eq_true_eq] at this
  refine ⟨fun z => ?_, this.1.1, this.1.2⟩
  rw [z] at this
  cases this.2
theorem shw_c {x : P} (h : x ∈ odds) {D : Str} (hD : (excN D).length ≤ 100) : shw (exP D x []) = some (shwX D x.shown) := by
  obtain ⟨_, o, z⟩ := okO_at h
  refine shw_ex o ?_
  unfold shwX
  rw [strLen_append, strLen_append, strLen_append]
  have : (Str.ofString "(").length = 1 ∧ (Str.ofString ")").length = 1 := by decide
  unfold lim
  omega
def cpElt : T → T
  | .cp _ x _ _ _ _ _ _ => x
  | t => t
/-- the comprehension in all(..) of a test -/
def allCp : T → T
  | .iff (.nt (.bi _ _ (.cons c _) _ _) _) _ _ _ => c
  | t => t
section
variable {k : Nat} {x : P} {F : Nat → List Vl → Sr → R Vl} {s : Sr} {x3 x4 x5 x6 : Option Vl}
theorem s2 (hx : x ∈ odds) : (sem gls F (sti t__law_right 2)).s [some (.r 0), some (.p x), some (.p (.list (mad x))), none, none, none, none] s = .nx [some (.r 0), some (.p x), some (.p (.list (mad x))), none, none, none, none] s := by
  have h := cp_mapv (gl := gls) (F := F) (E := sem gls F (cpElt (allCp (sti t__law_right 2)))) (i := 5) (j := 2) (n1 := "one") (n2 := "told") (p1 := ⟨143, 81, 143, 84⟩) (p2 := ⟨143, 88, 143, 92⟩) (e := [some (.r 0), some (.p x), some (.p (.list (mad x))), none, none, none, none]) (s := s) (ts := mad x) (fun _ => .bool true) (by rw [len_mad]; decide) rfl (by
    intro t ht
    obtain ⟨c, _, rfl⟩ := List.mem_map.mp ht
    simp [t__law_right, sti, allCp, cpElt, wipeE])
  simp [t__law_right, sti, allCp, cpElt, -u_cp] at h
  obtain ⟨bs, e1, ba⟩ := all_tr (mad x)
  simp [t__law_right, sti, -u_cp]
  rw [h]
  rw [e1]
  simp [ba]
theorem s3 (hx : x ∈ odds) : (sem gls F (sti t__law_right 3)).s [some (.r 0), some (.p x), some (.p (.list (mad x))), none, none, none, none] s = .nx [some (.r 0), some (.p x), some (.p (.list (mad x))), none, none, none, none] s := by
  have hs : shw x = some x.shown := shw_of (okO_at hx).1 (okO_at hx).2.1
  have h := cp_mapv (gl := gls) (F := F) (E := sem gls F (cpElt (allCp (sti t__law_right 3)))) (i := 5) (j := 2) (n1 := "one") (n2 := "told") (p1 := ⟨145, 51, 145, 54⟩) (p2 := ⟨145, 58, 145, 62⟩) (e := [some (.r 0), some (.p x), some (.p (.list (mad x))), none, none, none, none]) (s := s) (ts := mad x) (fun _ => .bool true) (by rw [len_mad]; decide) rfl (by
    intro t ht
    obtain ⟨c, _, rfl⟩ := List.mem_map.mp ht
    simp [t__law_right, sti, allCp, cpElt, wipeE, hs])
  simp [t__law_right, sti, allCp, cpElt, -u_cp] at h
  obtain ⟨bs, e1, ba⟩ := all_tr (mad x)
  simp [t__law_right, sti, -u_cp]
  rw [h, e1]
  simp [ba]
/-- the lots as they are told -/
def lotsM (x : P) : List P := nms.map fun D => .list [exP D x []]
/-- a test's first, second part -/
def orC : T → T
  | .iff (.bo _ (.cons (.nt (.bi _ _ (.cons c _) _ _) _) _) _) _ _ _ => c
  | t => t
def orL : T → T
  | .iff (.bo _ (.cons _ (.cons (.cmp a _ _ _) _)) _) _ _ _ => a
  | t => t
def orR : T → T
  | .iff (.bo _ (.cons _ (.cons (.cmp _ _ b _) _)) _) _ _ _ => b
  | t => t
abbrev e5 (x : P) : En := [some (.r 0), some (.p x), some (.p (.list (mad x))), some (.p (.list (lotsM x))), none, none, none]
theorem len_lots (x : P) : (lotsM x).length = 34 := by unfold lotsM; rw [List.length_map]; rfl
theorem s5 (hx : x ∈ odds) : (sem gls F (sti t__law_right 5)).s (e5 x) s = .nx (e5 x) s := by
  have c : (sem gls F (orC (sti t__law_right 5))).e (e5 x) s = .ok (.p (.list ((lotsM x).map fun _ => .bool true))) s := by
    refine cp_mapv (gl := gls) (F := F) (n1 := "") (n2 := "") (p1 := ⟨0, 0, 0, 0⟩) (p2 := ⟨0, 0, 0, 0⟩) (E := sem gls F (cpElt (orC (sti t__law_right 5)))) (i := 6) (j := 3) (e := e5 x) (s := s) (ts := lotsM x) (fun _ => .bool true) (by rw [len_lots]; decide) rfl ?_
    intro t ht
    obtain ⟨c, _, rfl⟩ := List.mem_map.mp ht
    simp [t__law_right, sti, orC, cpElt, wipeE]
  have l : (sem gls F (orL (sti t__law_right 5))).e (e5 x) s = .ok (.p (.list ((lotsM x).map fun t => match t with | .list [y] => ((shw y).map PyData.str).getD .none | t => t))) s := by
    refine cp_mapv (gl := gls) (F := F) (n1 := "") (n2 := "") (p1 := ⟨0, 0, 0, 0⟩) (p2 := ⟨0, 0, 0, 0⟩) (E := sem gls F (cpElt (orL (sti t__law_right 5)))) (i := 6) (j := 3) (e := e5 x) (s := s) (ts := lotsM x) _ (by rw [len_lots]; decide) rfl ?_
    intro t ht
    obtain ⟨c, hc, rfl⟩ := List.mem_map.mp ht
    have hs := shw_c hx (nm_at hc).2.2
    have a0 : L2.atI [exP c x []] 0 = some (exP c x []) := rfl
    simp [t__law_right, sti, orL, cpElt, wipeE, hs, a0]
  have r : (sem gls F (orR (sti t__law_right 5))).e (e5 x) s = .ok (.p (.list ((mad x).map fun y => ((shw y).map PyData.str).getD .none))) s := by
    refine cp_mapv (gl := gls) (F := F) (n1 := "") (n2 := "") (p1 := ⟨0, 0, 0, 0⟩) (p2 := ⟨0, 0, 0, 0⟩) (E := sem gls F (cpElt (orR (sti t__law_right 5)))) (i := 5) (j := 2) (e := e5 x) (s := s) (ts := mad x) _ (by rw [len_mad]; decide) rfl ?_
    intro t ht
    obtain ⟨c, hc, rfl⟩ := List.mem_map.mp ht
    have hs := shw_c hx (nm_at hc).2.2
    simp [t__law_right, sti, orR, cpElt, wipeE, hs]
  have el : ((lotsM x).map fun t => match t with | .list [y] => ((shw y).map PyData.str).getD .none | t => t) = (nms.map fun D => shwX D x.shown).map .str := by
    unfold lotsM
    rw [List.map_map, List.map_map]
    refine List.map_congr_left fun D hD => ?_
    show ((shw (exP D x [])).map PyData.str).getD .none = _
    rw [shw_c hx (nm_at hD).2.2]
    rfl
  have er : ((mad x).map fun y => ((shw y).map PyData.str).getD .none) = (nms.map fun D => shwX D x.shown).map .str := by
    unfold mad
    rw [List.map_map, List.map_map]
    refine List.map_congr_left fun D hD => ?_
    show ((shw (exP D x [])).map PyData.str).getD .none = _
    rw [shw_c hx (nm_at hD).2.2]
    rfl
  obtain ⟨bs, e1, ba⟩ := all_tr (lotsM x)
  have ne := ne_strs (ys := nms.map fun D => shwX D x.shown) (by
    intro y hy
    obtain ⟨D, hD, rfl⟩ := List.mem_map.mp hy
    exact List.all_eq_true.mp (List.all_eq_true.mp strs_ok x hx) D hD)
  rw [e1] at c
  rw [el] at l
  rw [er] at r
  generalize (nms.map fun D => shwX D x.shown).map PyData.str = ys at l r ne
  simp [t__law_right, sti, orC, orL, orR, -s_cp_e] at c l r
  simp [t__law_right, sti, -s_cp_e, c, l, r, ba, ne]
end
theorem bmul : binP .Mult (.list [.list []]) (.int 34) = some (.list (nms.map fun _ => .list [])) := by
  have e : rep [PyData.list []] 34 = nms.map fun _ => PyData.list [] := by unfold nms; rfl
  have e2 : binP .Mult (.list [.list []]) (.int 34) = if 0 ≤ (34 : Int) ∧ (34 : Int) ≤ lim ∧ [PyData.list []].length * (34 : Int).toNat ≤ lim then some (.list (rep [PyData.list []] (34 : Int).toNat)) else none := rfl
  rw [e2, if_pos (by decide)]
  exact congrArg (fun z => some (PyData.list z)) e
theorem eq_lists : cmpP .Eq (.list (nms.map fun _ => .list [])) (.list (nms.map fun _ => .list [])) = some true := by
  have : (nms.map fun _ => PyData.list []) = List.replicate 34 (.list []) := by rw [List.map_const']; rfl
  rw [this]
  rfl
theorem c_right (k : Nat) (p : Pot) (h : Gp 0 p) : ∃ q : Pot, callK gls ds (k+6) 7 [.r 0] [p.o] = .ok (.p (.bool true)) [q.o] := by
  obtain ⟨x, q, hx, _, ho⟩ := c_odd (k+2) p h
  refine ⟨q, ?_⟩
  have hs : shw x = some x.shown := shw_of (okO_at hx).1 (okO_at hx).2.1
  have w0 : callW (callK gls ds (k+5) 4) false [.r 0] [p.o] = .ok (.p x) [q.o] := by
    simp [callW, refs, inArgs, plain_o, ho, back]
  have w1 := w_made (k+4) x [q.o]
  have w4 := w_lots (k+4) (ts := mad x) (by rw [len_mad]; decide) (is_mad x) [q.o]
  rw [lots_mad] at w4
  have w7 := w_lots (k+4) (ts := [exP "CellarError" x []]) (by simp [lim]) (fun D t ht => by rw [List.mem_singleton.mp ht]; exact ⟨_, isx_ex⟩) [q.o]
  rw [lots_bare] at w7
  rw [callK_at (d := ⟨t__law_right, 1, 7⟩) rfl rfl]
  have body : ∀ (F : Nat → List Vl → Sr → R Vl) (e : En) (s : Sr), (sem gls F t__law_right).s e s = ((sem gls F (sti t__law_right 0)).s e s).th fun e s => ((sem gls F (sti t__law_right 1)).s e s).th fun e s => ((sem gls F (sti t__law_right 2)).s e s).th fun e s => ((sem gls F (sti t__law_right 3)).s e s).th fun e s =>
    ((sem gls F (sti t__law_right 4)).s e s).th fun e s => ((sem gls F (sti t__law_right 5)).s e s).th fun e s => ((sem gls F (sti t__law_right 6)).s e s).th fun e s => ((sem gls F (sti t__law_right 7)).s e s).th fun e s => .nx e s := fun _ _ _ => rfl
  have a0 : (sem gls (callK gls ds (k+5)) (sti t__law_right 0)).s [some (.r 0), none, none, none, none, none, none] [p.o] = .nx [some (.r 0), some (.p x), none, none, none, none, none] [q.o] := by
    simp [t__law_right, sti, w0]
  have a1 : (sem gls (callK gls ds (k+5)) (sti t__law_right 1)).s [some (.r 0), some (.p x), none, none, none, none, none] [q.o] = .nx [some (.r 0), some (.p x), some (.p (.list (mad x))), none, none, none, none] [q.o] := by
    simp [t__law_right, sti, w1]
  have a4 : (sem gls (callK gls ds (k+5)) (sti t__law_right 4)).s [some (.r 0), some (.p x), some (.p (.list (mad x))), none, none, none, none] [q.o] = .nx (e5 x) [q.o] := by
    simp [t__law_right, sti, w4, e5, lotsM]
  have a6 : (sem gls (callK gls ds (k+5)) (sti t__law_right 6)).s (e5 x) [q.o] = .nx ((e5 x).set 4 (some (.p (exP "CellarError" x [])))) [q.o] := by
    simp [t__law_right, sti, e5]
  have bm := bmul
  have el := eq_lists
  generalize (nms.map fun _ => PyData.list []) = ys at w7 bm el
  have a7 : (sem gls (callK gls ds (k+5)) (sti t__law_right 7)).s ((e5 x).set 4 (some (.p (exP "CellarError" x [])))) [q.o] = .rt (.p (.bool true)) [q.o] := by
    have lm := len_mad x
    have l1 : mkLstV false [Vl.p (exP "CellarError" x [])] = fun s => .ok (.p (.list [exP "CellarError" x []])) s := by
      funext s; exact mkLstV_ps (xs := [exP "CellarError" x []]) (by simp [lim])
    have l2 : mkLstV false [Vl.p (PyData.list [])] = fun s => .ok (.p (.list [.list []])) s := by
      funext s; exact mkLstV_ps (xs := [.list []]) (by decide)
    simp [t__law_right, sti, e5, hs, l1, l2, lm, w7, bm, el]
  show endX ((sem gls (callK gls ds (k+5)) t__law_right).s [some (.r 0), none, none, none, none, none, none] [p.o]) = _
  rw [body, a0, th_nx, a1, th_nx, s2 hx, th_nx, s3 hx, th_nx, a4, th_nx, s5 hx, th_nx, a6, th_nx, a7]
  rfl
end K10
end
section
set_option linter.all false
set_option maxRecDepth 100000
set_option maxHeartbeats 4000000
namespace K10
open PySem Mi
theorem hv0 (ns : List Int) : ∃ st', callK gls ds 12 8 [.p (.list (ns.map .int))] [] = .ok (.p (.bool true)) st' := by
  rw [callK_at (k := 11) (d := ⟨t_law, 1, 2⟩) rfl rfl]
  generalize hr : endX _ = r
  have a1 : ∀ s, callW (callK gls ds 11 3) false [.p (.list (ns.map .int)), .p (.int 3)] s = .ok (.p (.list (rng 0 1 (max 1 (min 3 (ns.map PyData.int).length))))) s := fun s => callW_p2 (f := callK gls ds 11 3) (c_cells 10 3 (by omega) (ns.map .int) [])
  have r2 := rng_eq (max 1 (min 3 (ns.map PyData.int).length)) 0
  simp [t_law, a1] at hr
  simp at r2
  rw [r2] at hr
  have hl : max 1 (min 3 ns.length) ≤ lim := by unfold lim; omega
  simp [hl, wipeE, Function.comp_def] at hr
  obtain ⟨ys, s', h1, h2, h3, h4⟩ := cpL_st (tg := kV 1) (cond := cnd (sem gls (callK gls ds 11) .nil)) (elt := (sem gls (callK gls ds 11) (match t_law with | .cons (.re (.bi _ _ (.cons (.cp _ x _ _ _ _ _ _) _) _ _) _) _ => x | t => t)).e) (e := [some (.p (.list (ns.map .int))), none]) (fun _ _ => True) (fun y => y = .bool true) ((List.range (max 1 (min 3 ns.length))).map fun j => .p (.int (j : Nat))) 0 [] trivial (by
    intro i v s hv _
    rw [List.getElem?_map] at hv
    obtain ⟨j, hj, rfl⟩ := Option.map_eq_some_iff.mp hv
    have hj := List.mem_range.mp (List.mem_of_getElem? hj)
    obtain ⟨p, h1, h2⟩ := c_pot 10 ns j (by omega)
    obtain ⟨q, h3⟩ := c_right 5 p h2
    have w1 : callW (callK gls ds 11 0) true [.p (.list (ns.map .int)), .p (.int (j : Nat))] s = .ok (.r s.length) (s ++ [p.o]) := by
      simp [callW, refs, inArgs, h1, back, Pot.o]
    have w2 : callW (callK gls ds 11 7) false [.r s.length] (s ++ [p.o]) = .ok (.p (.bool true)) ((s ++ [p.o]).set s.length q.o) := callW_r1 (t := []) (by simp) (plain_o p) h3
    refine ⟨_, rfl, by simp, .bool true, (s ++ [p.o]).set s.length q.o, ?_, rfl, trivial⟩
    simp [t_law, w1, w2])
  simp [t_law] at h1
  have hy : ys = (List.replicate ys.length true).map PyData.bool := by
    rw [List.map_replicate]
    exact List.eq_replicate_iff.mpr ⟨rfl, h3⟩
  rw [hy] at h1
  rw [h1] at hr
  simp [-List.map_replicate] at hr
  exact ⟨_, hr.symm⟩
theorem hv : ∀ ns : List Int, ns.length ≤ 63 → (∀ z ∈ ns, PySem.Builtin.Int.intBits z ≤ 1048576) → ∃ st', callK wd.gl ds 12 8 [.p (.list (ns.map .int))] [] = .ok (.p (.bool true)) st' := fun ns _ _ => hv0 ns
end K10
end
section
set_option Elab.async false
set_option linter.all false
set_option maxRecDepth 100000
set_option maxHeartbeats 2000000
/-! X6: the errors' facts, from the written part. -/
namespace Mi
open PySem
open L2 (V HO Hp)
/-- an object is a class of errors -/
def IsExc (o : Obj) (c : Str) (C : Addr) (own : List Value) : Prop := ∃ q N bs sn sub ab col dd k0 k1 k2 k3 k5, o = excClassObj c q C N bs (own ++ veTail) true sn sub ab col dd k0 k1 k2 k3 k5 "ValueError.__new__"
def IsFn (o : Obj) (fd : FuncData) : Prop := ∃ od sl, o = ⟨.type "function", od, .func fd, sl⟩
section
variable {K : Fg} {CEa fI C : Addr} {c : Str} {o oE : Obj} {own : List Value}
theorem exc_cls (l : K.lookup C = some o) (i : IsExc o c C own) : ∃ cd, PySem.W.clsIn K C = some cd ∧ cd.name = c ∧ cd.mro = .ref C :: own ++ veTail ∧ cd.hasDict = true := by
  obtain ⟨q, N, bs, sn, sub, ab, col, dd, k0, k1, k2, k3, k5, rfl⟩ := i
  refine ⟨{ name := c, bases := bs, mro := .ref C :: (own ++ veTail), ns := N, qualname := q, hasDict := true, slotNames := sn, subclasses := sub, abstract := ab, collection := col, hasDel := false }, ?_, rfl, rfl, rfl⟩
  unfold PySem.W.clsIn
  rw [l] <;> rfl
theorem refs_own (h : own = [.ref CEa] ∨ (own = [] ∧ C = CEa)) : PySem.HandSPX.refsVE (own ++ veTail) = true := by
  rcases h with rfl | ⟨rfl, _⟩ <;> rfl
theorem along_ve (K : Fg) : PySem.W.alongIn K "__init__" veTail = some (some (.builtin "ValueError.__init__")) := by kernel_rfl
theorem err_mk (hown : own = [.ref CEa] ∨ (own = [] ∧ C = CEa)) (a : PySem.W.nsIn K mainGlobals c = some (some (.ref C))) (aE : PySem.W.nsIn K mainGlobals "CellarError" = some (some (.ref CEa))) (l : K.lookup C = some o) (lE : K.lookup CEa = some oE) (i : IsExc o c C own) (iE : IsExc oE "CellarError" CEa [])
    (kC : PySem.W.keepIn K (.ref C) = true) (nv : c ≠ "ValueError") (f1 : PySem.W.findIn K (.ref C) "__setattr__" = some (some (.builtin "object.__setattr__"))) (f2 : PySem.W.findIn K (.ref C) "value" = some none) (f3 : PySem.W.findIn K (.ref C) "__init__" = some (some (.ref fI)))
    (f4 : PySem.W.findIn K (.ref C) "__repr__" = some (some (.builtin "BaseException.__repr__"))) (f5 : PySem.W.findIn K (.ref C) "__getattribute__" = some (some (.builtin "BaseException.__getattribute__"))) (f6 : PySem.W.findIn K (.ref C) "__getattr__" = some none)
    (f7 : PySem.W.findIn K (.ref C) "__class__" = some (some (.builtin "object.__class__"))) (tI : PySem.W.typeIn K (.ref fI) = some (.type "function")) (hn : PySem.W.specialIn K (.builtin "object.__class__") "__get__" = some (some (.builtin "getset_descriptor.__get__")))
    (ht : PySem.W.takesIn K (.builtin "object.__class__") = some true) (hne : own = [] ∨ c ≠ "CellarError") : ErrF K CEa fI c C := by
  obtain ⟨cd, e1, e2, e3, e4⟩ := exc_cls l i
  obtain ⟨cdE, g1, g2, _, _⟩ := exc_cls lE iE
  have tyC : PySem.W.typeIn K (.ref C) = some (.type "type") := by
    obtain ⟨q, N, bs, sn, sub, ab, col, dd, k0, k1, k2, k3, k5, rfl⟩ := i
    show (K.lookup C).map (·.cls) = _
    rw [l]
    rfl
  have sub : ∀ u, cd.mro.contains u = true → PySem.W.mroIn K C u = some true := fun u hu => by
    unfold PySem.W.mroIn
    rw [e1, Option.bind_some, if_neg (by rw [e3]; simp), hu]
  have tl : ∀ T, veTail.contains (.type T) = true → cd.mro.contains (.type T) = true := fun T h => by
    rw [e3]
    simp only [List.contains_eq_mem, List.mem_append, decide_eq_true_eq] at h ⊢
    exact .inr h
  have hd : PySem.W.hasDictIn K C = true := by
    unfold PySem.W.hasDictIn
    rw [e1]
    simpa using e4
  have ce : cd.mro.contains (.ref CEa) = true := by
    rw [e3]
    rcases hown with rfl | ⟨rfl, rfl⟩ <;> simp
  have su : PySem.W.ks_superIn K C CEa "__init__" = some (some (.builtin "ValueError.__init__")) := by
    have dr : ((cd.mro.dropWhile (· != .ref CEa)).drop 1) = veTail := by
      rw [e3]
      rcases hown with rfl | ⟨rfl, rfl⟩
      · have hc : c ≠ "CellarError" := by
          rcases hne with z | z
          · cases z
          · exact z
        have hC : C ≠ CEa := fun z => by
          subst z
          rw [e1] at g1
          cases g1
          exact hc (e2.symm.trans g2)
        have b1 : (Value.ref C != Value.ref CEa) = true := by simpa using hC
        have b2 : (Value.ref CEa != Value.ref CEa) = false := by simp
        show ((Value.ref C :: Value.ref CEa :: veTail).dropWhile (· != .ref CEa)).drop 1 = _
        rw [List.dropWhile_cons, if_pos b1, List.dropWhile_cons, if_neg (by rw [b2]; simp)]
        rfl
      · have b2 : (Value.ref C != Value.ref C) = false := by simp
        show ((Value.ref C :: veTail).dropWhile (· != .ref C)).drop 1 = _
        rw [List.dropWhile_cons, if_neg (by rw [b2]; simp)]
        rfl
    unfold PySem.W.ks_superIn
    rw [e1]
    show PySem.W.alongIn K "__init__" ((cd.mro.dropWhile (· != .ref CEa)).drop 1) = _
    rw [dr]
    exact along_ve K
  refine ⟨⟨⟨?_, f1, sub _ (tl _ (by decide +kernel)), tyC, kC⟩, sub _ ce, su, sub _ (tl _ (by decide +kernel)), f2⟩, a, nv, aE, ⟨cdE, g1, g2⟩, f3, tI, f4, ⟨f5, f6, sub _ (tl _ (by decide +kernel)), hd⟩, ⟨f5, f6, sub _ (tl _ (by decide +kernel)), hd, f7, hn, ht, sub _ (tl _ (by decide +kernel))⟩, cd, own, e1, e2, e3, hown⟩
  obtain ⟨q, N, bs, sn, sub, ab, col, dd, k0, k1, k2, k3, k5, rfl⟩ := i
  exact ⟨_, _, _, _, _, _, _, _, _, _, _, _, _, _, _, l, refs_own hown⟩
theorem cl_at (a : PySem.W.nsIn K mainGlobals c = some (some (.ref C))) : clK K c = .ref C := by unfold clK; rw [a]
end
/-- all errors' __init__ -/
def IniG (K : Fg) (mg : Str → Option Value) (P : Program) (CEa fI : Addr) (fd : FuncData) : Prop := L2.Binds K fd ["self", "value"] [] ∧ ∀ (wd : World) (base : Heap) (k : Nat), L2.FnOk P wd K mg base CXn (k + 1) fI fd ["self", "value"] (iniSp K CEa)
theorem ini_mk {K : Fg} {mg : Str → Option Value} {P : Program} {h : Heap} (X : K.In h) (G : h.Ns mainGlobals mg) {CEa fI kc cc : Addr} {o oc ok oE : Obj} {nm qu : Str} {pa : Arguments} {p1 p2 p3 p4 p5 p6 p7 p8 p9 q : Pos} {more : List (Str × Const)} {dV kV doc pm ct : Value} {an : Option Addr} {ar : Arg} {vs : Array Value} {t t2 : Tok}
    (l : K.lookup fI = some o) (i : IsFn o (iniD nm qu pa p1 p2 p3 p4 p5 p6 p7 p8 p9 q more kc dV kV doc pm an (.ref cc) ct)) (lc : K.lookup cc = some oc) (dc : oc.data = .fields vs) (v1 : vs[1]? = some (.str qu t)) (v2 : vs[2]? = some (.str P.main.file t2)) (lk : K.lookup kc = some ok) (dk : ok.data = .cell (some (.ref CEa)))
    (lE : K.lookup CEa = some oE) (iE : IsExc oE "CellarError" CEa []) (top : (P.main.scope.names.lookup ("super" : Str)).isSome = false) (any : PySem.W.nsIn K cStatics "thirdparty.any" = some none) (sup : PySem.W.nsIn K mainGlobals "super" = some none) (hpp : (p3.endLine == p5.line) = true)
    (ap : (pa.posonlyargs ++ pa.args).head? = some ar) (aa : ar.arg = "self") (hb : ∀ us : List Value, us.length = 2 → bindArgs (iniD nm qu pa p1 p2 p3 p4 p5 p6 p7 p8 p9 q more kc dV kV doc pm an (.ref cc) ct) ⟨us, []⟩ = pure ((["self", "value"] : List Str).zip us)) :
    IniG K mg P CEa fI (iniD nm qu pa p1 p2 p3 p4 p5 p6 p7 p8 p9 q more kc dV kV doc pm an (.ref cc) ct) := by
  refine ⟨.all hb, fun wd base k => ini_fn ⟨?_, ⟨ar, ap, aa⟩, ⟨oc, vs, t, t2, lc, dc, v1, v2⟩, ⟨ok, lk, dk⟩, ?_, top, any⟩ (PySem.W.mg_none_of X G sup) hpp⟩
  · obtain ⟨od, sl, rfl⟩ := i
    exact ⟨od, sl, l⟩
  · obtain ⟨q, N, bs, sn, sub, ab, col, dd, k0, k1, k2, k3, k5, rfl⟩ := iE
    exact ⟨_, _, lE, rfl⟩
end Mi
end
set_option Elab.async false
set_option linter.all false
set_option maxRecDepth 100000
set_option maxHeartbeats 0
namespace K10
open PySem Mi
abbrev top (i : Nat) : Stmt := PySem.Challenge.pw_pouredastold_k10_errors_each_its_own.main.body.getD i (.Pass ⟨0, 0, 0, 0⟩)
theorem eb__law_pot : L2.defBody (top 37) = toSs t__law_pot := rfl
theorem hs__law_pot : C8.scC ["script", "place", "cell", "own", "small"] ["script", "place"] (L2.defScope (top 37)) = true := by decide +kernel
theorem hw__law_pot : (wf wd t__law_pot ⟨["script", "place", "cell", "own", "small"], L2.defScope (top 37), fun _ => true⟩).ss = true := by decide +kernel
theorem eb__law_take : L2.defBody (top 38) = toSs t__law_take := rfl
theorem hs__law_take : C8.scC ["pot", "upto", "digit", "prime", "blend"] ["pot", "upto"] (L2.defScope (top 38)) = true := by decide +kernel
theorem hw__law_take : (wf wd t__law_take ⟨["pot", "upto", "digit", "prime", "blend"], L2.defScope (top 38), fun _ => true⟩).ss = true := by decide +kernel
theorem eb__law_of : L2.defBody (top 39) = toSs t__law_of := rfl
theorem hs__law_of : C8.scC ["pot", "some"] ["pot", "some"] (L2.defScope (top 39)) = true := by decide +kernel
theorem hw__law_of : (wf wd t__law_of ⟨["pot", "some"], L2.defScope (top 39), fun _ => true⟩).ss = true := by decide +kernel
theorem eb__law_cells : L2.defBody (top 40) = toSs t__law_cells := rfl
theorem hs__law_cells : C8.scC ["script", "most"] ["script", "most"] (L2.defScope (top 40)) = true := by decide +kernel
theorem hw__law_cells : (wf wd t__law_cells ⟨["script", "most"], L2.defScope (top 40), fun _ => true⟩).ss = true := by decide +kernel
theorem eb__law_odd : L2.defBody (top 41) = toSs t__law_odd := rfl
theorem hs__law_odd : C8.scC ["pot", "some"] ["pot"] (L2.defScope (top 41)) = true := by decide +kernel
theorem hw__law_odd : (wf wd t__law_odd ⟨["pot", "some"], L2.defScope (top 41), fun _ => true⟩).ss = true := by decide +kernel
theorem eb__law_all_made : L2.defBody (top 42) = toSs t__law_all_made := rfl
theorem hs__law_all_made : C8.scC ["value", "found"] ["value"] (L2.defScope (top 42)) = true := by decide +kernel
theorem hw__law_all_made : (wf wd t__law_all_made ⟨["value", "found"], L2.defScope (top 42), fun _ => true⟩).ss = true := by decide +kernel
theorem eb__law_lots : L2.defBody (top 43) = toSs t__law_lots := rfl
theorem hs__law_lots : C8.scC ["told", "found", "one"] ["told"] (L2.defScope (top 43)) = true := by decide +kernel
theorem hw__law_lots : (wf wd t__law_lots ⟨["told", "found", "one"], L2.defScope (top 43), fun _ => true⟩).ss = true := by decide +kernel
theorem eb__law_right : L2.defBody (top 44) = toSs t__law_right := rfl
theorem hs__law_right : C8.scC ["pot", "value", "told", "lots", "bare", "one", "lot"] ["pot"] (L2.defScope (top 44)) = true := by decide +kernel
theorem hw__law_right : (wf wd t__law_right ⟨["pot", "value", "told", "lots", "bare", "one", "lot"], L2.defScope (top 44), fun _ => true⟩).ss = true := by decide +kernel
theorem eb_law : L2.defBody (top 45) = toSs t_law := rfl
theorem hs_law : C8.scC ["script", "place"] ["script"] (L2.defScope (top 45)) = true := by decide +kernel
theorem hw_law : (wf wd t_law ⟨["script", "place"], L2.defScope (top 45), fun _ => true⟩).ss = true := by decide +kernel
theorem law_mk {K : Fg} {mg : Str → Option Value} {h : Heap} (X : K.In h) (G : h.Ns mainGlobals mg)
    {f0 : Addr} {od0 an0 : Option Addr} {sl0 : Array (Option Value)} {oc0 kV0 dc0 pm0 cd0 ct0 : Value} (a0 : PySem.W.nsIn K mainGlobals "_law_pot" = some (some (.ref f0))) (l0 : K.lookup f0 = some ⟨oc0, od0, .func (PySem.W.fnOf "_law_pot" "_law_pot" (L2.defArgs (top 37)) (L2.defBody (top 37)) (L2.defScope (top 37)) .none kV0 dc0 pm0 an0 cd0 ct0), sl0⟩) (c0 : PySem.W.codeIn K cd0 "_law_pot" = true) (k0 : PySem.W.keepIn K (.ref f0) = true)
    {f1 : Addr} {od1 an1 : Option Addr} {sl1 : Array (Option Value)} {oc1 kV1 dc1 pm1 cd1 ct1 : Value} (a1 : PySem.W.nsIn K mainGlobals "_law_take" = some (some (.ref f1))) (l1 : K.lookup f1 = some ⟨oc1, od1, .func (PySem.W.fnOf "_law_take" "_law_take" (L2.defArgs (top 38)) (L2.defBody (top 38)) (L2.defScope (top 38)) .none kV1 dc1 pm1 an1 cd1 ct1), sl1⟩) (c1 : PySem.W.codeIn K cd1 "_law_take" = true) (k1 : PySem.W.keepIn K (.ref f1) = true)
    {f2 : Addr} {od2 an2 : Option Addr} {sl2 : Array (Option Value)} {oc2 kV2 dc2 pm2 cd2 ct2 : Value} (a2 : PySem.W.nsIn K mainGlobals "_law_of" = some (some (.ref f2))) (l2 : K.lookup f2 = some ⟨oc2, od2, .func (PySem.W.fnOf "_law_of" "_law_of" (L2.defArgs (top 39)) (L2.defBody (top 39)) (L2.defScope (top 39)) .none kV2 dc2 pm2 an2 cd2 ct2), sl2⟩) (c2 : PySem.W.codeIn K cd2 "_law_of" = true) (k2 : PySem.W.keepIn K (.ref f2) = true)
    {f3 : Addr} {od3 an3 : Option Addr} {sl3 : Array (Option Value)} {oc3 kV3 dc3 pm3 cd3 ct3 : Value} (a3 : PySem.W.nsIn K mainGlobals "_law_cells" = some (some (.ref f3))) (l3 : K.lookup f3 = some ⟨oc3, od3, .func (PySem.W.fnOf "_law_cells" "_law_cells" (L2.defArgs (top 40)) (L2.defBody (top 40)) (L2.defScope (top 40)) .none kV3 dc3 pm3 an3 cd3 ct3), sl3⟩) (c3 : PySem.W.codeIn K cd3 "_law_cells" = true) (k3 : PySem.W.keepIn K (.ref f3) = true)
    {f4 : Addr} {od4 an4 : Option Addr} {sl4 : Array (Option Value)} {oc4 kV4 dc4 pm4 cd4 ct4 : Value} (a4 : PySem.W.nsIn K mainGlobals "_law_odd" = some (some (.ref f4))) (l4 : K.lookup f4 = some ⟨oc4, od4, .func (PySem.W.fnOf "_law_odd" "_law_odd" (L2.defArgs (top 41)) (L2.defBody (top 41)) (L2.defScope (top 41)) .none kV4 dc4 pm4 an4 cd4 ct4), sl4⟩) (c4 : PySem.W.codeIn K cd4 "_law_odd" = true) (k4 : PySem.W.keepIn K (.ref f4) = true)
    {f5 : Addr} {od5 an5 : Option Addr} {sl5 : Array (Option Value)} {oc5 kV5 dc5 pm5 cd5 ct5 : Value} (a5 : PySem.W.nsIn K mainGlobals "_law_all_made" = some (some (.ref f5))) (l5 : K.lookup f5 = some ⟨oc5, od5, .func (PySem.W.fnOf "_law_all_made" "_law_all_made" (L2.defArgs (top 42)) (L2.defBody (top 42)) (L2.defScope (top 42)) .none kV5 dc5 pm5 an5 cd5 ct5), sl5⟩) (c5 : PySem.W.codeIn K cd5 "_law_all_made" = true) (k5 : PySem.W.keepIn K (.ref f5) = true)
    {f6 : Addr} {od6 an6 : Option Addr} {sl6 : Array (Option Value)} {oc6 kV6 dc6 pm6 cd6 ct6 : Value} (a6 : PySem.W.nsIn K mainGlobals "_law_lots" = some (some (.ref f6))) (l6 : K.lookup f6 = some ⟨oc6, od6, .func (PySem.W.fnOf "_law_lots" "_law_lots" (L2.defArgs (top 43)) (L2.defBody (top 43)) (L2.defScope (top 43)) .none kV6 dc6 pm6 an6 cd6 ct6), sl6⟩) (c6 : PySem.W.codeIn K cd6 "_law_lots" = true) (k6 : PySem.W.keepIn K (.ref f6) = true)
    {f7 : Addr} {od7 an7 : Option Addr} {sl7 : Array (Option Value)} {oc7 kV7 dc7 pm7 cd7 ct7 : Value} (a7 : PySem.W.nsIn K mainGlobals "_law_right" = some (some (.ref f7))) (l7 : K.lookup f7 = some ⟨oc7, od7, .func (PySem.W.fnOf "_law_right" "_law_right" (L2.defArgs (top 44)) (L2.defBody (top 44)) (L2.defScope (top 44)) .none kV7 dc7 pm7 an7 cd7 ct7), sl7⟩) (c7 : PySem.W.codeIn K cd7 "_law_right" = true) (k7 : PySem.W.keepIn K (.ref f7) = true)
    {f8 : Addr} {od8 an8 : Option Addr} {sl8 : Array (Option Value)} {oc8 kV8 dc8 pm8 cd8 ct8 : Value} (a8 : PySem.W.nsIn K mainGlobals "law" = some (some (.ref f8))) (l8 : K.lookup f8 = some ⟨oc8, od8, .func (PySem.W.fnOf "law" "law" (L2.defArgs (top 45)) (L2.defBody (top 45)) (L2.defScope (top 45)) .none kV8 dc8 pm8 an8 cd8 ct8), sl8⟩) (c8 : PySem.W.codeIn K cd8 "law" = true) (k8 : PySem.W.keepIn K (.ref f8) = true)
    (n0 : PySem.W.nsIn K mainGlobals "len" = some none)
    (n1 : PySem.W.nsIn K mainGlobals "int" = some none)
    (n2 : PySem.W.nsIn K mainGlobals "abs" = some none)
    (n3 : PySem.W.nsIn K mainGlobals "max" = some none)
    (n4 : PySem.W.nsIn K mainGlobals "min" = some none)
    (n5 : PySem.W.nsIn K mainGlobals "sum" = some none)
    (n6 : PySem.W.nsIn K mainGlobals "all" = some none)
    (n7 : PySem.W.nsIn K mainGlobals "any" = some none)
    (n8 : PySem.W.nsIn K mainGlobals "tuple" = some none)
    (n9 : PySem.W.nsIn K mainGlobals "list" = some none)
    (n10 : PySem.W.nsIn K mainGlobals "sorted" = some none)
    (n11 : PySem.W.nsIn K mainGlobals "isinstance" = some none)
    (n12 : PySem.W.nsIn K mainGlobals "bool" = some none)
    (n13 : PySem.W.nsIn K mainGlobals "str" = some none)
    (n14 : PySem.W.nsIn K mainGlobals "dict" = some none)
    (n15 : PySem.W.nsIn K mainGlobals "range" = some none)
    (n16 : PySem.W.nsIn K mainGlobals "enumerate" = some none)
    (n17 : PySem.W.nsIn K mainGlobals "zip" = some none)
    (n18 : PySem.W.nsIn K mainGlobals "set" = some none)
    (n19 : PySem.W.nsIn K mainGlobals "repr" = some none)
    (n20 : PySem.W.nsIn K mainGlobals "ValueError" = some none)
    (n21 : PySem.W.nsIn K mainGlobals "super" = some none)
    : Law wd ds K mg where
  gl := fun i x hx => by
    simp [wd] at hx
  bn := fun x hx => by
    simp only [bnames, List.mem_cons, List.not_mem_nil, or_false] at hx
    rcases hx with rfl | rfl | rfl | rfl | rfl | rfl | rfl | rfl | rfl | rfl | rfl | rfl | rfl | rfl | rfl | rfl | rfl | rfl | rfl | rfl | rfl | rfl
    · exact PySem.W.mg_none_of X G n0
    · exact PySem.W.mg_none_of X G n1
    · exact PySem.W.mg_none_of X G n2
    · exact PySem.W.mg_none_of X G n3
    · exact PySem.W.mg_none_of X G n4
    · exact PySem.W.mg_none_of X G n5
    · exact PySem.W.mg_none_of X G n6
    · exact PySem.W.mg_none_of X G n7
    · exact PySem.W.mg_none_of X G n8
    · exact PySem.W.mg_none_of X G n9
    · exact PySem.W.mg_none_of X G n10
    · exact PySem.W.mg_none_of X G n11
    · exact PySem.W.mg_none_of X G n12
    · exact PySem.W.mg_none_of X G n13
    · exact PySem.W.mg_none_of X G n14
    · exact PySem.W.mg_none_of X G n15
    · exact PySem.W.mg_none_of X G n16
    · exact PySem.W.mg_none_of X G n17
    · exact PySem.W.mg_none_of X G n18
    · exact PySem.W.mg_none_of X G n19
    · exact PySem.W.mg_none_of X G n20
    · exact PySem.W.mg_none_of X G n21
  df := fun i x hx => by
    match i, hx with
    | 0, hx => cases hx; exact ⟨_, rfl, df_mk X G a0 l0 c0 k0 eb__law_pot hs__law_pot rfl rfl hw__law_pot fun _ _ _ _ _ _ us hl => match us, hl with | [_, _], _ => rfl⟩
    | 1, hx => cases hx; exact ⟨_, rfl, df_mk X G a1 l1 c1 k1 eb__law_take hs__law_take rfl rfl hw__law_take fun _ _ _ _ _ _ us hl => match us, hl with | [_, _], _ => rfl⟩
    | 2, hx => cases hx; exact ⟨_, rfl, df_mk X G a2 l2 c2 k2 eb__law_of hs__law_of rfl rfl hw__law_of fun _ _ _ _ _ _ us hl => match us, hl with | [_, _], _ => rfl⟩
    | 3, hx => cases hx; exact ⟨_, rfl, df_mk X G a3 l3 c3 k3 eb__law_cells hs__law_cells rfl rfl hw__law_cells fun _ _ _ _ _ _ us hl => match us, hl with | [_, _], _ => rfl⟩
    | 4, hx => cases hx; exact ⟨_, rfl, df_mk X G a4 l4 c4 k4 eb__law_odd hs__law_odd rfl rfl hw__law_odd fun _ _ _ _ _ _ us hl => match us, hl with | [_], _ => rfl⟩
    | 5, hx => cases hx; exact ⟨_, rfl, df_mk X G a5 l5 c5 k5 eb__law_all_made hs__law_all_made rfl rfl hw__law_all_made fun _ _ _ _ _ _ us hl => match us, hl with | [_], _ => rfl⟩
    | 6, hx => cases hx; exact ⟨_, rfl, df_mk X G a6 l6 c6 k6 eb__law_lots hs__law_lots rfl rfl hw__law_lots fun _ _ _ _ _ _ us hl => match us, hl with | [_], _ => rfl⟩
    | 7, hx => cases hx; exact ⟨_, rfl, df_mk X G a7 l7 c7 k7 eb__law_right hs__law_right rfl rfl hw__law_right fun _ _ _ _ _ _ us hl => match us, hl with | [_], _ => rfl⟩
    | 8, hx => cases hx; exact ⟨_, rfl, df_mk X G a8 l8 c8 k8 eb_law hs_law rfl rfl hw_law fun _ _ _ _ _ _ us hl => match us, hl with | [_], _ => rfl⟩
    | i + 9, hx => simp [wd] at hx
theorem err_all {K : Fg} {mg : Str → Option Value} {h : Heap} (X : K.In h) (G : h.Ns mainGlobals mg)
    {cE fI kc cc : Addr} {oI oc ok : Obj} {nm qu : Str} {pa : Arguments} {p1 p2 p3 p4 p5 p6 p7 p8 p9 q : Pos} {more : List (Str × Const)} {dV kV doc pm ct : Value} {an : Option Addr} {ar : Arg} {vs : Array Value} {t t2 : Tok} {cl1 : Addr} {oc1 : Obj} {cl2 : Addr} {oc2 : Obj} {cl3 : Addr} {oc3 : Obj} {cl4 : Addr} {oc4 : Obj} {cl5 : Addr} {oc5 : Obj} {cl6 : Addr} {oc6 : Obj} {cl7 : Addr} {oc7 : Obj} {cl8 : Addr} {oc8 : Obj} {cl9 : Addr} {oc9 : Obj} {cl10 : Addr} {oc10 : Obj} {cl11 : Addr} {oc11 : Obj} {cl12 : Addr} {oc12 : Obj} {cl13 : Addr} {oc13 : Obj} {cl14 : Addr} {oc14 : Obj} {cl15 : Addr} {oc15 : Obj} {cl16 : Addr} {oc16 : Obj} {cl17 : Addr} {oc17 : Obj} {cl18 : Addr} {oc18 : Obj} {cl19 : Addr} {oc19 : Obj} {cl20 : Addr} {oc20 : Obj} {cl21 : Addr} {oc21 : Obj} {cl22 : Addr} {oc22 : Obj} {cl23 : Addr} {oc23 : Obj} {cl24 : Addr} {oc24 : Obj} {cl25 : Addr} {oc25 : Obj} {cl26 : Addr} {oc26 : Obj} {cl27 : Addr} {oc27 : Obj} {cl28 : Addr} {oc28 : Obj} {cl29 : Addr} {oc29 : Obj} {cl30 : Addr} {oc30 : Obj} {cl31 : Addr} {oc31 : Obj} {cl32 : Addr} {oc32 : Obj} {cl33 : Addr} {oc33 : Obj} {cl34 : Addr} {oc34 : Obj} {oc0 : Obj}
    (a0 : PySem.W.nsIn K mainGlobals "CellarError" = some (some (.ref cE))) (l0 : K.lookup cE = some oc0) (i0 : IsExc oc0 "CellarError" cE []) (k0 : PySem.W.keepIn K (.ref cE) = true) (f10_ : PySem.W.findIn K (.ref cE) "__setattr__" = some (some (.builtin "object.__setattr__"))) (f20_ : PySem.W.findIn K (.ref cE) "value" = some none) (f30_ : PySem.W.findIn K (.ref cE) "__init__" = some (some (.ref fI)))
    (f40_ : PySem.W.findIn K (.ref cE) "__repr__" = some (some (.builtin "BaseException.__repr__"))) (f50_ : PySem.W.findIn K (.ref cE) "__getattribute__" = some (some (.builtin "BaseException.__getattribute__"))) (f60_ : PySem.W.findIn K (.ref cE) "__getattr__" = some none) (f70_ : PySem.W.findIn K (.ref cE) "__class__" = some (some (.builtin "object.__class__")))
    (a1 : PySem.W.nsIn K mainGlobals "BadRankings" = some (some (.ref cl1))) (l1 : K.lookup cl1 = some oc1) (i1 : IsExc oc1 "BadRankings" cl1 [.ref cE]) (k1 : PySem.W.keepIn K (.ref cl1) = true) (f11_ : PySem.W.findIn K (.ref cl1) "__setattr__" = some (some (.builtin "object.__setattr__"))) (f21_ : PySem.W.findIn K (.ref cl1) "value" = some none) (f31_ : PySem.W.findIn K (.ref cl1) "__init__" = some (some (.ref fI)))
    (f41_ : PySem.W.findIn K (.ref cl1) "__repr__" = some (some (.builtin "BaseException.__repr__"))) (f51_ : PySem.W.findIn K (.ref cl1) "__getattribute__" = some (some (.builtin "BaseException.__getattribute__"))) (f61_ : PySem.W.findIn K (.ref cl1) "__getattr__" = some none) (f71_ : PySem.W.findIn K (.ref cl1) "__class__" = some (some (.builtin "object.__class__")))
    (a2 : PySem.W.nsIn K mainGlobals "BadFlights" = some (some (.ref cl2))) (l2 : K.lookup cl2 = some oc2) (i2 : IsExc oc2 "BadFlights" cl2 [.ref cE]) (k2 : PySem.W.keepIn K (.ref cl2) = true) (f12_ : PySem.W.findIn K (.ref cl2) "__setattr__" = some (some (.builtin "object.__setattr__"))) (f22_ : PySem.W.findIn K (.ref cl2) "value" = some none) (f32_ : PySem.W.findIn K (.ref cl2) "__init__" = some (some (.ref fI)))
    (f42_ : PySem.W.findIn K (.ref cl2) "__repr__" = some (some (.builtin "BaseException.__repr__"))) (f52_ : PySem.W.findIn K (.ref cl2) "__getattribute__" = some (some (.builtin "BaseException.__getattribute__"))) (f62_ : PySem.W.findIn K (.ref cl2) "__getattr__" = some none) (f72_ : PySem.W.findIn K (.ref cl2) "__class__" = some (some (.builtin "object.__class__")))
    (a3 : PySem.W.nsIn K mainGlobals "BadAccounts" = some (some (.ref cl3))) (l3 : K.lookup cl3 = some oc3) (i3 : IsExc oc3 "BadAccounts" cl3 [.ref cE]) (k3 : PySem.W.keepIn K (.ref cl3) = true) (f13_ : PySem.W.findIn K (.ref cl3) "__setattr__" = some (some (.builtin "object.__setattr__"))) (f23_ : PySem.W.findIn K (.ref cl3) "value" = some none) (f33_ : PySem.W.findIn K (.ref cl3) "__init__" = some (some (.ref fI)))
    (f43_ : PySem.W.findIn K (.ref cl3) "__repr__" = some (some (.builtin "BaseException.__repr__"))) (f53_ : PySem.W.findIn K (.ref cl3) "__getattribute__" = some (some (.builtin "BaseException.__getattribute__"))) (f63_ : PySem.W.findIn K (.ref cl3) "__getattr__" = some none) (f73_ : PySem.W.findIn K (.ref cl3) "__class__" = some (some (.builtin "object.__class__")))
    (a4 : PySem.W.nsIn K mainGlobals "BadVats" = some (some (.ref cl4))) (l4 : K.lookup cl4 = some oc4) (i4 : IsExc oc4 "BadVats" cl4 [.ref cE]) (k4 : PySem.W.keepIn K (.ref cl4) = true) (f14_ : PySem.W.findIn K (.ref cl4) "__setattr__" = some (some (.builtin "object.__setattr__"))) (f24_ : PySem.W.findIn K (.ref cl4) "value" = some none) (f34_ : PySem.W.findIn K (.ref cl4) "__init__" = some (some (.ref fI)))
    (f44_ : PySem.W.findIn K (.ref cl4) "__repr__" = some (some (.builtin "BaseException.__repr__"))) (f54_ : PySem.W.findIn K (.ref cl4) "__getattribute__" = some (some (.builtin "BaseException.__getattribute__"))) (f64_ : PySem.W.findIn K (.ref cl4) "__getattr__" = some none) (f74_ : PySem.W.findIn K (.ref cl4) "__class__" = some (some (.builtin "object.__class__")))
    (a5 : PySem.W.nsIn K mainGlobals "BadPours" = some (some (.ref cl5))) (l5 : K.lookup cl5 = some oc5) (i5 : IsExc oc5 "BadPours" cl5 [.ref cE]) (k5 : PySem.W.keepIn K (.ref cl5) = true) (f15_ : PySem.W.findIn K (.ref cl5) "__setattr__" = some (some (.builtin "object.__setattr__"))) (f25_ : PySem.W.findIn K (.ref cl5) "value" = some none) (f35_ : PySem.W.findIn K (.ref cl5) "__init__" = some (some (.ref fI)))
    (f45_ : PySem.W.findIn K (.ref cl5) "__repr__" = some (some (.builtin "BaseException.__repr__"))) (f55_ : PySem.W.findIn K (.ref cl5) "__getattribute__" = some (some (.builtin "BaseException.__getattribute__"))) (f65_ : PySem.W.findIn K (.ref cl5) "__getattr__" = some none) (f75_ : PySem.W.findIn K (.ref cl5) "__class__" = some (some (.builtin "object.__class__")))
    (a6 : PySem.W.nsIn K mainGlobals "BadJugs" = some (some (.ref cl6))) (l6 : K.lookup cl6 = some oc6) (i6 : IsExc oc6 "BadJugs" cl6 [.ref cE]) (k6 : PySem.W.keepIn K (.ref cl6) = true) (f16_ : PySem.W.findIn K (.ref cl6) "__setattr__" = some (some (.builtin "object.__setattr__"))) (f26_ : PySem.W.findIn K (.ref cl6) "value" = some none) (f36_ : PySem.W.findIn K (.ref cl6) "__init__" = some (some (.ref fI)))
    (f46_ : PySem.W.findIn K (.ref cl6) "__repr__" = some (some (.builtin "BaseException.__repr__"))) (f56_ : PySem.W.findIn K (.ref cl6) "__getattribute__" = some (some (.builtin "BaseException.__getattribute__"))) (f66_ : PySem.W.findIn K (.ref cl6) "__getattr__" = some none) (f76_ : PySem.W.findIn K (.ref cl6) "__class__" = some (some (.builtin "object.__class__")))
    (a7 : PySem.W.nsIn K mainGlobals "BadLabels" = some (some (.ref cl7))) (l7 : K.lookup cl7 = some oc7) (i7 : IsExc oc7 "BadLabels" cl7 [.ref cE]) (k7 : PySem.W.keepIn K (.ref cl7) = true) (f17_ : PySem.W.findIn K (.ref cl7) "__setattr__" = some (some (.builtin "object.__setattr__"))) (f27_ : PySem.W.findIn K (.ref cl7) "value" = some none) (f37_ : PySem.W.findIn K (.ref cl7) "__init__" = some (some (.ref fI)))
    (f47_ : PySem.W.findIn K (.ref cl7) "__repr__" = some (some (.builtin "BaseException.__repr__"))) (f57_ : PySem.W.findIn K (.ref cl7) "__getattribute__" = some (some (.builtin "BaseException.__getattribute__"))) (f67_ : PySem.W.findIn K (.ref cl7) "__getattr__" = some none) (f77_ : PySem.W.findIn K (.ref cl7) "__class__" = some (some (.builtin "object.__class__")))
    (a8 : PySem.W.nsIn K mainGlobals "BadScales" = some (some (.ref cl8))) (l8 : K.lookup cl8 = some oc8) (i8 : IsExc oc8 "BadScales" cl8 [.ref cE]) (k8 : PySem.W.keepIn K (.ref cl8) = true) (f18_ : PySem.W.findIn K (.ref cl8) "__setattr__" = some (some (.builtin "object.__setattr__"))) (f28_ : PySem.W.findIn K (.ref cl8) "value" = some none) (f38_ : PySem.W.findIn K (.ref cl8) "__init__" = some (some (.ref fI)))
    (f48_ : PySem.W.findIn K (.ref cl8) "__repr__" = some (some (.builtin "BaseException.__repr__"))) (f58_ : PySem.W.findIn K (.ref cl8) "__getattribute__" = some (some (.builtin "BaseException.__getattribute__"))) (f68_ : PySem.W.findIn K (.ref cl8) "__getattr__" = some none) (f78_ : PySem.W.findIn K (.ref cl8) "__class__" = some (some (.builtin "object.__class__")))
    (a9 : PySem.W.nsIn K mainGlobals "BadBottles" = some (some (.ref cl9))) (l9 : K.lookup cl9 = some oc9) (i9 : IsExc oc9 "BadBottles" cl9 [.ref cE]) (k9 : PySem.W.keepIn K (.ref cl9) = true) (f19_ : PySem.W.findIn K (.ref cl9) "__setattr__" = some (some (.builtin "object.__setattr__"))) (f29_ : PySem.W.findIn K (.ref cl9) "value" = some none) (f39_ : PySem.W.findIn K (.ref cl9) "__init__" = some (some (.ref fI)))
    (f49_ : PySem.W.findIn K (.ref cl9) "__repr__" = some (some (.builtin "BaseException.__repr__"))) (f59_ : PySem.W.findIn K (.ref cl9) "__getattribute__" = some (some (.builtin "BaseException.__getattribute__"))) (f69_ : PySem.W.findIn K (.ref cl9) "__getattr__" = some none) (f79_ : PySem.W.findIn K (.ref cl9) "__class__" = some (some (.builtin "object.__class__")))
    (a10 : PySem.W.nsIn K mainGlobals "BadCrates" = some (some (.ref cl10))) (l10 : K.lookup cl10 = some oc10) (i10 : IsExc oc10 "BadCrates" cl10 [.ref cE]) (k10 : PySem.W.keepIn K (.ref cl10) = true) (f110_ : PySem.W.findIn K (.ref cl10) "__setattr__" = some (some (.builtin "object.__setattr__"))) (f210_ : PySem.W.findIn K (.ref cl10) "value" = some none) (f310_ : PySem.W.findIn K (.ref cl10) "__init__" = some (some (.ref fI)))
    (f410_ : PySem.W.findIn K (.ref cl10) "__repr__" = some (some (.builtin "BaseException.__repr__"))) (f510_ : PySem.W.findIn K (.ref cl10) "__getattribute__" = some (some (.builtin "BaseException.__getattribute__"))) (f610_ : PySem.W.findIn K (.ref cl10) "__getattr__" = some none) (f710_ : PySem.W.findIn K (.ref cl10) "__class__" = some (some (.builtin "object.__class__")))
    (a11 : PySem.W.nsIn K mainGlobals "BadWeights" = some (some (.ref cl11))) (l11 : K.lookup cl11 = some oc11) (i11 : IsExc oc11 "BadWeights" cl11 [.ref cE]) (k11 : PySem.W.keepIn K (.ref cl11) = true) (f111_ : PySem.W.findIn K (.ref cl11) "__setattr__" = some (some (.builtin "object.__setattr__"))) (f211_ : PySem.W.findIn K (.ref cl11) "value" = some none) (f311_ : PySem.W.findIn K (.ref cl11) "__init__" = some (some (.ref fI)))
    (f411_ : PySem.W.findIn K (.ref cl11) "__repr__" = some (some (.builtin "BaseException.__repr__"))) (f511_ : PySem.W.findIn K (.ref cl11) "__getattribute__" = some (some (.builtin "BaseException.__getattribute__"))) (f611_ : PySem.W.findIn K (.ref cl11) "__getattr__" = some none) (f711_ : PySem.W.findIn K (.ref cl11) "__class__" = some (some (.builtin "object.__class__")))
    (a12 : PySem.W.nsIn K mainGlobals "BadFound" = some (some (.ref cl12))) (l12 : K.lookup cl12 = some oc12) (i12 : IsExc oc12 "BadFound" cl12 [.ref cE]) (k12 : PySem.W.keepIn K (.ref cl12) = true) (f112_ : PySem.W.findIn K (.ref cl12) "__setattr__" = some (some (.builtin "object.__setattr__"))) (f212_ : PySem.W.findIn K (.ref cl12) "value" = some none) (f312_ : PySem.W.findIn K (.ref cl12) "__init__" = some (some (.ref fI)))
    (f412_ : PySem.W.findIn K (.ref cl12) "__repr__" = some (some (.builtin "BaseException.__repr__"))) (f512_ : PySem.W.findIn K (.ref cl12) "__getattribute__" = some (some (.builtin "BaseException.__getattribute__"))) (f612_ : PySem.W.findIn K (.ref cl12) "__getattr__" = some none) (f712_ : PySem.W.findIn K (.ref cl12) "__class__" = some (some (.builtin "object.__class__")))
    (a13 : PySem.W.nsIn K mainGlobals "BadFillings" = some (some (.ref cl13))) (l13 : K.lookup cl13 = some oc13) (i13 : IsExc oc13 "BadFillings" cl13 [.ref cE]) (k13 : PySem.W.keepIn K (.ref cl13) = true) (f113_ : PySem.W.findIn K (.ref cl13) "__setattr__" = some (some (.builtin "object.__setattr__"))) (f213_ : PySem.W.findIn K (.ref cl13) "value" = some none) (f313_ : PySem.W.findIn K (.ref cl13) "__init__" = some (some (.ref fI)))
    (f413_ : PySem.W.findIn K (.ref cl13) "__repr__" = some (some (.builtin "BaseException.__repr__"))) (f513_ : PySem.W.findIn K (.ref cl13) "__getattribute__" = some (some (.builtin "BaseException.__getattribute__"))) (f613_ : PySem.W.findIn K (.ref cl13) "__getattr__" = some none) (f713_ : PySem.W.findIn K (.ref cl13) "__class__" = some (some (.builtin "object.__class__")))
    (a14 : PySem.W.nsIn K mainGlobals "BadTaints" = some (some (.ref cl14))) (l14 : K.lookup cl14 = some oc14) (i14 : IsExc oc14 "BadTaints" cl14 [.ref cE]) (k14 : PySem.W.keepIn K (.ref cl14) = true) (f114_ : PySem.W.findIn K (.ref cl14) "__setattr__" = some (some (.builtin "object.__setattr__"))) (f214_ : PySem.W.findIn K (.ref cl14) "value" = some none) (f314_ : PySem.W.findIn K (.ref cl14) "__init__" = some (some (.ref fI)))
    (f414_ : PySem.W.findIn K (.ref cl14) "__repr__" = some (some (.builtin "BaseException.__repr__"))) (f514_ : PySem.W.findIn K (.ref cl14) "__getattribute__" = some (some (.builtin "BaseException.__getattribute__"))) (f614_ : PySem.W.findIn K (.ref cl14) "__getattr__" = some none) (f714_ : PySem.W.findIn K (.ref cl14) "__class__" = some (some (.builtin "object.__class__")))
    (a15 : PySem.W.nsIn K mainGlobals "BadRackings" = some (some (.ref cl15))) (l15 : K.lookup cl15 = some oc15) (i15 : IsExc oc15 "BadRackings" cl15 [.ref cE]) (k15 : PySem.W.keepIn K (.ref cl15) = true) (f115_ : PySem.W.findIn K (.ref cl15) "__setattr__" = some (some (.builtin "object.__setattr__"))) (f215_ : PySem.W.findIn K (.ref cl15) "value" = some none) (f315_ : PySem.W.findIn K (.ref cl15) "__init__" = some (some (.ref fI)))
    (f415_ : PySem.W.findIn K (.ref cl15) "__repr__" = some (some (.builtin "BaseException.__repr__"))) (f515_ : PySem.W.findIn K (.ref cl15) "__getattribute__" = some (some (.builtin "BaseException.__getattribute__"))) (f615_ : PySem.W.findIn K (.ref cl15) "__getattr__" = some none) (f715_ : PySem.W.findIn K (.ref cl15) "__class__" = some (some (.builtin "object.__class__")))
    (a16 : PySem.W.nsIn K mainGlobals "BadLine" = some (some (.ref cl16))) (l16 : K.lookup cl16 = some oc16) (i16 : IsExc oc16 "BadLine" cl16 [.ref cE]) (k16 : PySem.W.keepIn K (.ref cl16) = true) (f116_ : PySem.W.findIn K (.ref cl16) "__setattr__" = some (some (.builtin "object.__setattr__"))) (f216_ : PySem.W.findIn K (.ref cl16) "value" = some none) (f316_ : PySem.W.findIn K (.ref cl16) "__init__" = some (some (.ref fI)))
    (f416_ : PySem.W.findIn K (.ref cl16) "__repr__" = some (some (.builtin "BaseException.__repr__"))) (f516_ : PySem.W.findIn K (.ref cl16) "__getattribute__" = some (some (.builtin "BaseException.__getattribute__"))) (f616_ : PySem.W.findIn K (.ref cl16) "__getattr__" = some none) (f716_ : PySem.W.findIn K (.ref cl16) "__class__" = some (some (.builtin "object.__class__")))
    (a17 : PySem.W.nsIn K mainGlobals "BadJournal" = some (some (.ref cl17))) (l17 : K.lookup cl17 = some oc17) (i17 : IsExc oc17 "BadJournal" cl17 [.ref cE]) (k17 : PySem.W.keepIn K (.ref cl17) = true) (f117_ : PySem.W.findIn K (.ref cl17) "__setattr__" = some (some (.builtin "object.__setattr__"))) (f217_ : PySem.W.findIn K (.ref cl17) "value" = some none) (f317_ : PySem.W.findIn K (.ref cl17) "__init__" = some (some (.ref fI)))
    (f417_ : PySem.W.findIn K (.ref cl17) "__repr__" = some (some (.builtin "BaseException.__repr__"))) (f517_ : PySem.W.findIn K (.ref cl17) "__getattribute__" = some (some (.builtin "BaseException.__getattribute__"))) (f617_ : PySem.W.findIn K (.ref cl17) "__getattr__" = some none) (f717_ : PySem.W.findIn K (.ref cl17) "__class__" = some (some (.builtin "object.__class__")))
    (a18 : PySem.W.nsIn K mainGlobals "NothingToRedo" = some (some (.ref cl18))) (l18 : K.lookup cl18 = some oc18) (i18 : IsExc oc18 "NothingToRedo" cl18 [.ref cE]) (k18 : PySem.W.keepIn K (.ref cl18) = true) (f118_ : PySem.W.findIn K (.ref cl18) "__setattr__" = some (some (.builtin "object.__setattr__"))) (f218_ : PySem.W.findIn K (.ref cl18) "value" = some none) (f318_ : PySem.W.findIn K (.ref cl18) "__init__" = some (some (.ref fI)))
    (f418_ : PySem.W.findIn K (.ref cl18) "__repr__" = some (some (.builtin "BaseException.__repr__"))) (f518_ : PySem.W.findIn K (.ref cl18) "__getattribute__" = some (some (.builtin "BaseException.__getattribute__"))) (f618_ : PySem.W.findIn K (.ref cl18) "__getattr__" = some none) (f718_ : PySem.W.findIn K (.ref cl18) "__class__" = some (some (.builtin "object.__class__")))
    (a19 : PySem.W.nsIn K mainGlobals "NothingToUndo" = some (some (.ref cl19))) (l19 : K.lookup cl19 = some oc19) (i19 : IsExc oc19 "NothingToUndo" cl19 [.ref cE]) (k19 : PySem.W.keepIn K (.ref cl19) = true) (f119_ : PySem.W.findIn K (.ref cl19) "__setattr__" = some (some (.builtin "object.__setattr__"))) (f219_ : PySem.W.findIn K (.ref cl19) "value" = some none) (f319_ : PySem.W.findIn K (.ref cl19) "__init__" = some (some (.ref fI)))
    (f419_ : PySem.W.findIn K (.ref cl19) "__repr__" = some (some (.builtin "BaseException.__repr__"))) (f519_ : PySem.W.findIn K (.ref cl19) "__getattribute__" = some (some (.builtin "BaseException.__getattribute__"))) (f619_ : PySem.W.findIn K (.ref cl19) "__getattr__" = some none) (f719_ : PySem.W.findIn K (.ref cl19) "__class__" = some (some (.builtin "object.__class__")))
    (a20 : PySem.W.nsIn K mainGlobals "Unknown" = some (some (.ref cl20))) (l20 : K.lookup cl20 = some oc20) (i20 : IsExc oc20 "Unknown" cl20 [.ref cE]) (k20 : PySem.W.keepIn K (.ref cl20) = true) (f120_ : PySem.W.findIn K (.ref cl20) "__setattr__" = some (some (.builtin "object.__setattr__"))) (f220_ : PySem.W.findIn K (.ref cl20) "value" = some none) (f320_ : PySem.W.findIn K (.ref cl20) "__init__" = some (some (.ref fI)))
    (f420_ : PySem.W.findIn K (.ref cl20) "__repr__" = some (some (.builtin "BaseException.__repr__"))) (f520_ : PySem.W.findIn K (.ref cl20) "__getattribute__" = some (some (.builtin "BaseException.__getattribute__"))) (f620_ : PySem.W.findIn K (.ref cl20) "__getattr__" = some none) (f720_ : PySem.W.findIn K (.ref cl20) "__class__" = some (some (.builtin "object.__class__")))
    (a21 : PySem.W.nsIn K mainGlobals "Full" = some (some (.ref cl21))) (l21 : K.lookup cl21 = some oc21) (i21 : IsExc oc21 "Full" cl21 [.ref cE]) (k21 : PySem.W.keepIn K (.ref cl21) = true) (f121_ : PySem.W.findIn K (.ref cl21) "__setattr__" = some (some (.builtin "object.__setattr__"))) (f221_ : PySem.W.findIn K (.ref cl21) "value" = some none) (f321_ : PySem.W.findIn K (.ref cl21) "__init__" = some (some (.ref fI)))
    (f421_ : PySem.W.findIn K (.ref cl21) "__repr__" = some (some (.builtin "BaseException.__repr__"))) (f521_ : PySem.W.findIn K (.ref cl21) "__getattribute__" = some (some (.builtin "BaseException.__getattribute__"))) (f621_ : PySem.W.findIn K (.ref cl21) "__getattr__" = some none) (f721_ : PySem.W.findIn K (.ref cl21) "__class__" = some (some (.builtin "object.__class__")))
    (a22 : PySem.W.nsIn K mainGlobals "TooMany" = some (some (.ref cl22))) (l22 : K.lookup cl22 = some oc22) (i22 : IsExc oc22 "TooMany" cl22 [.ref cE]) (k22 : PySem.W.keepIn K (.ref cl22) = true) (f122_ : PySem.W.findIn K (.ref cl22) "__setattr__" = some (some (.builtin "object.__setattr__"))) (f222_ : PySem.W.findIn K (.ref cl22) "value" = some none) (f322_ : PySem.W.findIn K (.ref cl22) "__init__" = some (some (.ref fI)))
    (f422_ : PySem.W.findIn K (.ref cl22) "__repr__" = some (some (.builtin "BaseException.__repr__"))) (f522_ : PySem.W.findIn K (.ref cl22) "__getattribute__" = some (some (.builtin "BaseException.__getattribute__"))) (f622_ : PySem.W.findIn K (.ref cl22) "__getattr__" = some none) (f722_ : PySem.W.findIn K (.ref cl22) "__class__" = some (some (.builtin "object.__class__")))
    (a23 : PySem.W.nsIn K mainGlobals "Unlike" = some (some (.ref cl23))) (l23 : K.lookup cl23 = some oc23) (i23 : IsExc oc23 "Unlike" cl23 [.ref cE]) (k23 : PySem.W.keepIn K (.ref cl23) = true) (f123_ : PySem.W.findIn K (.ref cl23) "__setattr__" = some (some (.builtin "object.__setattr__"))) (f223_ : PySem.W.findIn K (.ref cl23) "value" = some none) (f323_ : PySem.W.findIn K (.ref cl23) "__init__" = some (some (.ref fI)))
    (f423_ : PySem.W.findIn K (.ref cl23) "__repr__" = some (some (.builtin "BaseException.__repr__"))) (f523_ : PySem.W.findIn K (.ref cl23) "__getattribute__" = some (some (.builtin "BaseException.__getattribute__"))) (f623_ : PySem.W.findIn K (.ref cl23) "__getattr__" = some none) (f723_ : PySem.W.findIn K (.ref cl23) "__class__" = some (some (.builtin "object.__class__")))
    (a24 : PySem.W.nsIn K mainGlobals "BadShares" = some (some (.ref cl24))) (l24 : K.lookup cl24 = some oc24) (i24 : IsExc oc24 "BadShares" cl24 [.ref cE]) (k24 : PySem.W.keepIn K (.ref cl24) = true) (f124_ : PySem.W.findIn K (.ref cl24) "__setattr__" = some (some (.builtin "object.__setattr__"))) (f224_ : PySem.W.findIn K (.ref cl24) "value" = some none) (f324_ : PySem.W.findIn K (.ref cl24) "__init__" = some (some (.ref fI)))
    (f424_ : PySem.W.findIn K (.ref cl24) "__repr__" = some (some (.builtin "BaseException.__repr__"))) (f524_ : PySem.W.findIn K (.ref cl24) "__getattribute__" = some (some (.builtin "BaseException.__getattribute__"))) (f624_ : PySem.W.findIn K (.ref cl24) "__getattr__" = some none) (f724_ : PySem.W.findIn K (.ref cl24) "__class__" = some (some (.builtin "object.__class__")))
    (a25 : PySem.W.nsIn K mainGlobals "BadBlend" = some (some (.ref cl25))) (l25 : K.lookup cl25 = some oc25) (i25 : IsExc oc25 "BadBlend" cl25 [.ref cE]) (k25 : PySem.W.keepIn K (.ref cl25) = true) (f125_ : PySem.W.findIn K (.ref cl25) "__setattr__" = some (some (.builtin "object.__setattr__"))) (f225_ : PySem.W.findIn K (.ref cl25) "value" = some none) (f325_ : PySem.W.findIn K (.ref cl25) "__init__" = some (some (.ref fI)))
    (f425_ : PySem.W.findIn K (.ref cl25) "__repr__" = some (some (.builtin "BaseException.__repr__"))) (f525_ : PySem.W.findIn K (.ref cl25) "__getattribute__" = some (some (.builtin "BaseException.__getattribute__"))) (f625_ : PySem.W.findIn K (.ref cl25) "__getattr__" = some none) (f725_ : PySem.W.findIn K (.ref cl25) "__class__" = some (some (.builtin "object.__class__")))
    (a26 : PySem.W.nsIn K mainGlobals "BadParts" = some (some (.ref cl26))) (l26 : K.lookup cl26 = some oc26) (i26 : IsExc oc26 "BadParts" cl26 [.ref cE]) (k26 : PySem.W.keepIn K (.ref cl26) = true) (f126_ : PySem.W.findIn K (.ref cl26) "__setattr__" = some (some (.builtin "object.__setattr__"))) (f226_ : PySem.W.findIn K (.ref cl26) "value" = some none) (f326_ : PySem.W.findIn K (.ref cl26) "__init__" = some (some (.ref fI)))
    (f426_ : PySem.W.findIn K (.ref cl26) "__repr__" = some (some (.builtin "BaseException.__repr__"))) (f526_ : PySem.W.findIn K (.ref cl26) "__getattribute__" = some (some (.builtin "BaseException.__getattribute__"))) (f626_ : PySem.W.findIn K (.ref cl26) "__getattr__" = some none) (f726_ : PySem.W.findIn K (.ref cl26) "__class__" = some (some (.builtin "object.__class__")))
    (a27 : PySem.W.nsIn K mainGlobals "BadRooms" = some (some (.ref cl27))) (l27 : K.lookup cl27 = some oc27) (i27 : IsExc oc27 "BadRooms" cl27 [.ref cE]) (k27 : PySem.W.keepIn K (.ref cl27) = true) (f127_ : PySem.W.findIn K (.ref cl27) "__setattr__" = some (some (.builtin "object.__setattr__"))) (f227_ : PySem.W.findIn K (.ref cl27) "value" = some none) (f327_ : PySem.W.findIn K (.ref cl27) "__init__" = some (some (.ref fI)))
    (f427_ : PySem.W.findIn K (.ref cl27) "__repr__" = some (some (.builtin "BaseException.__repr__"))) (f527_ : PySem.W.findIn K (.ref cl27) "__getattribute__" = some (some (.builtin "BaseException.__getattribute__"))) (f627_ : PySem.W.findIn K (.ref cl27) "__getattr__" = some none) (f727_ : PySem.W.findIn K (.ref cl27) "__class__" = some (some (.builtin "object.__class__")))
    (a28 : PySem.W.nsIn K mainGlobals "BadRoom" = some (some (.ref cl28))) (l28 : K.lookup cl28 = some oc28) (i28 : IsExc oc28 "BadRoom" cl28 [.ref cE]) (k28 : PySem.W.keepIn K (.ref cl28) = true) (f128_ : PySem.W.findIn K (.ref cl28) "__setattr__" = some (some (.builtin "object.__setattr__"))) (f228_ : PySem.W.findIn K (.ref cl28) "value" = some none) (f328_ : PySem.W.findIn K (.ref cl28) "__init__" = some (some (.ref fI)))
    (f428_ : PySem.W.findIn K (.ref cl28) "__repr__" = some (some (.builtin "BaseException.__repr__"))) (f528_ : PySem.W.findIn K (.ref cl28) "__getattribute__" = some (some (.builtin "BaseException.__getattribute__"))) (f628_ : PySem.W.findIn K (.ref cl28) "__getattr__" = some none) (f728_ : PySem.W.findIn K (.ref cl28) "__class__" = some (some (.builtin "object.__class__")))
    (a29 : PySem.W.nsIn K mainGlobals "BadPlan" = some (some (.ref cl29))) (l29 : K.lookup cl29 = some oc29) (i29 : IsExc oc29 "BadPlan" cl29 [.ref cE]) (k29 : PySem.W.keepIn K (.ref cl29) = true) (f129_ : PySem.W.findIn K (.ref cl29) "__setattr__" = some (some (.builtin "object.__setattr__"))) (f229_ : PySem.W.findIn K (.ref cl29) "value" = some none) (f329_ : PySem.W.findIn K (.ref cl29) "__init__" = some (some (.ref fI)))
    (f429_ : PySem.W.findIn K (.ref cl29) "__repr__" = some (some (.builtin "BaseException.__repr__"))) (f529_ : PySem.W.findIn K (.ref cl29) "__getattribute__" = some (some (.builtin "BaseException.__getattribute__"))) (f629_ : PySem.W.findIn K (.ref cl29) "__getattr__" = some none) (f729_ : PySem.W.findIn K (.ref cl29) "__class__" = some (some (.builtin "object.__class__")))
    (a30 : PySem.W.nsIn K mainGlobals "BadOrders" = some (some (.ref cl30))) (l30 : K.lookup cl30 = some oc30) (i30 : IsExc oc30 "BadOrders" cl30 [.ref cE]) (k30 : PySem.W.keepIn K (.ref cl30) = true) (f130_ : PySem.W.findIn K (.ref cl30) "__setattr__" = some (some (.builtin "object.__setattr__"))) (f230_ : PySem.W.findIn K (.ref cl30) "value" = some none) (f330_ : PySem.W.findIn K (.ref cl30) "__init__" = some (some (.ref fI)))
    (f430_ : PySem.W.findIn K (.ref cl30) "__repr__" = some (some (.builtin "BaseException.__repr__"))) (f530_ : PySem.W.findIn K (.ref cl30) "__getattribute__" = some (some (.builtin "BaseException.__getattribute__"))) (f630_ : PySem.W.findIn K (.ref cl30) "__getattr__" = some none) (f730_ : PySem.W.findIn K (.ref cl30) "__class__" = some (some (.builtin "object.__class__")))
    (a31 : PySem.W.nsIn K mainGlobals "BadCasks" = some (some (.ref cl31))) (l31 : K.lookup cl31 = some oc31) (i31 : IsExc oc31 "BadCasks" cl31 [.ref cE]) (k31 : PySem.W.keepIn K (.ref cl31) = true) (f131_ : PySem.W.findIn K (.ref cl31) "__setattr__" = some (some (.builtin "object.__setattr__"))) (f231_ : PySem.W.findIn K (.ref cl31) "value" = some none) (f331_ : PySem.W.findIn K (.ref cl31) "__init__" = some (some (.ref fI)))
    (f431_ : PySem.W.findIn K (.ref cl31) "__repr__" = some (some (.builtin "BaseException.__repr__"))) (f531_ : PySem.W.findIn K (.ref cl31) "__getattribute__" = some (some (.builtin "BaseException.__getattribute__"))) (f631_ : PySem.W.findIn K (.ref cl31) "__getattr__" = some none) (f731_ : PySem.W.findIn K (.ref cl31) "__class__" = some (some (.builtin "object.__class__")))
    (a32 : PySem.W.nsIn K mainGlobals "BadWines" = some (some (.ref cl32))) (l32 : K.lookup cl32 = some oc32) (i32 : IsExc oc32 "BadWines" cl32 [.ref cE]) (k32 : PySem.W.keepIn K (.ref cl32) = true) (f132_ : PySem.W.findIn K (.ref cl32) "__setattr__" = some (some (.builtin "object.__setattr__"))) (f232_ : PySem.W.findIn K (.ref cl32) "value" = some none) (f332_ : PySem.W.findIn K (.ref cl32) "__init__" = some (some (.ref fI)))
    (f432_ : PySem.W.findIn K (.ref cl32) "__repr__" = some (some (.builtin "BaseException.__repr__"))) (f532_ : PySem.W.findIn K (.ref cl32) "__getattribute__" = some (some (.builtin "BaseException.__getattribute__"))) (f632_ : PySem.W.findIn K (.ref cl32) "__getattr__" = some none) (f732_ : PySem.W.findIn K (.ref cl32) "__class__" = some (some (.builtin "object.__class__")))
    (a33 : PySem.W.nsIn K mainGlobals "BadWine" = some (some (.ref cl33))) (l33 : K.lookup cl33 = some oc33) (i33 : IsExc oc33 "BadWine" cl33 [.ref cE]) (k33 : PySem.W.keepIn K (.ref cl33) = true) (f133_ : PySem.W.findIn K (.ref cl33) "__setattr__" = some (some (.builtin "object.__setattr__"))) (f233_ : PySem.W.findIn K (.ref cl33) "value" = some none) (f333_ : PySem.W.findIn K (.ref cl33) "__init__" = some (some (.ref fI)))
    (f433_ : PySem.W.findIn K (.ref cl33) "__repr__" = some (some (.builtin "BaseException.__repr__"))) (f533_ : PySem.W.findIn K (.ref cl33) "__getattribute__" = some (some (.builtin "BaseException.__getattribute__"))) (f633_ : PySem.W.findIn K (.ref cl33) "__getattr__" = some none) (f733_ : PySem.W.findIn K (.ref cl33) "__class__" = some (some (.builtin "object.__class__")))
    (a34 : PySem.W.nsIn K mainGlobals "BadInt" = some (some (.ref cl34))) (l34 : K.lookup cl34 = some oc34) (i34 : IsExc oc34 "BadInt" cl34 [.ref cE]) (k34 : PySem.W.keepIn K (.ref cl34) = true) (f134_ : PySem.W.findIn K (.ref cl34) "__setattr__" = some (some (.builtin "object.__setattr__"))) (f234_ : PySem.W.findIn K (.ref cl34) "value" = some none) (f334_ : PySem.W.findIn K (.ref cl34) "__init__" = some (some (.ref fI)))
    (f434_ : PySem.W.findIn K (.ref cl34) "__repr__" = some (some (.builtin "BaseException.__repr__"))) (f534_ : PySem.W.findIn K (.ref cl34) "__getattribute__" = some (some (.builtin "BaseException.__getattribute__"))) (f634_ : PySem.W.findIn K (.ref cl34) "__getattr__" = some none) (f734_ : PySem.W.findIn K (.ref cl34) "__class__" = some (some (.builtin "object.__class__")))
    (tI : PySem.W.typeIn K (.ref fI) = some (.type "function")) (hn : PySem.W.specialIn K (.builtin "object.__class__") "__get__" = some (some (.builtin "getset_descriptor.__get__"))) (ht : PySem.W.takesIn K (.builtin "object.__class__") = some true)
    (lI : K.lookup fI = some oI) (iI : IsFn oI (iniD nm qu pa p1 p2 p3 p4 p5 p6 p7 p8 p9 q more kc dV kV doc pm an (.ref cc) ct)) (lc : K.lookup cc = some oc) (dc : oc.data = .fields vs) (v1 : vs[1]? = some (.str qu t)) (v2 : vs[2]? = some (.str PySem.Challenge.rw_pouredastold_k10_errors_each_its_own.prog.main.file t2)) (lk : K.lookup kc = some ok) (dk : ok.data = .cell (some (.ref cE))) (any : PySem.W.nsIn K cStatics "thirdparty.any" = some none) (sup : PySem.W.nsIn K mainGlobals "super" = some none)
    (hpp : (p3.endLine == p5.line) = true) (ap : (pa.posonlyargs ++ pa.args).head? = some ar) (aa : ar.arg = "self") (hb : ∀ us : List Value, us.length = 2 → bindArgs (iniD nm qu pa p1 p2 p3 p4 p5 p6 p7 p8 p9 q more kc dV kV doc pm an (.ref cc) ct) ⟨us, []⟩ = pure ((["self", "value"] : List Str).zip us)) :
    ErrG (clK K) wd K mg PySem.Challenge.rw_pouredastold_k10_errors_each_its_own.prog := by
  have I : IniG K mg PySem.Challenge.rw_pouredastold_k10_errors_each_its_own.prog cE fI (iniD nm qu pa p1 p2 p3 p4 p5 p6 p7 p8 p9 q more kc dV kV doc pm an (.ref cc) ct) := ini_mk X G lI iI lc dc v1 v2 lk dk l0 i0 (by decide +kernel) any sup hpp ap aa hb
  intro c hc
  have hc : c ∈ (["BadRankings", "BadFlights", "BadAccounts", "BadVats", "BadPours", "BadJugs", "BadLabels", "BadScales", "BadBottles", "BadCrates", "BadWeights", "BadFound", "BadFillings", "BadTaints", "BadRackings", "BadLine", "BadJournal", "NothingToRedo", "NothingToUndo", "Unknown", "Full", "TooMany", "Unlike", "BadShares", "BadBlend", "BadParts", "BadRooms", "BadRoom", "BadPlan", "BadOrders"] : List Str) ∨ c ∈ (["BadCasks", "BadWines", "BadWine", "BadInt", "CellarError"] : List Str) := List.mem_append.mp hc
  simp only [List.mem_cons, List.not_mem_nil, or_false] at hc
  rcases hc with (rfl | rfl | rfl | rfl | rfl | rfl | rfl | rfl | rfl | rfl | rfl | rfl | rfl | rfl | rfl | rfl | rfl | rfl | rfl | rfl | rfl | rfl | rfl | rfl | rfl | rfl | rfl | rfl | rfl | rfl) | (rfl | rfl | rfl | rfl | rfl)
  · exact ⟨cl1, cE, fI, (iniD nm qu pa p1 p2 p3 p4 p5 p6 p7 p8 p9 q more kc dV kV doc pm an (.ref cc) ct), err_mk (.inl rfl) a1 a0 l1 l0 i1 i0 k1 (by decide +kernel) f11_ f21_ f31_ f41_ f51_ f61_ f71_ tI hn ht (.inr (by decide +kernel)), PySem.W.mg_of X G a1, cl_at a1, I.1, I.2⟩
  · exact ⟨cl2, cE, fI, (iniD nm qu pa p1 p2 p3 p4 p5 p6 p7 p8 p9 q more kc dV kV doc pm an (.ref cc) ct), err_mk (.inl rfl) a2 a0 l2 l0 i2 i0 k2 (by decide +kernel) f12_ f22_ f32_ f42_ f52_ f62_ f72_ tI hn ht (.inr (by decide +kernel)), PySem.W.mg_of X G a2, cl_at a2, I.1, I.2⟩
  · exact ⟨cl3, cE, fI, (iniD nm qu pa p1 p2 p3 p4 p5 p6 p7 p8 p9 q more kc dV kV doc pm an (.ref cc) ct), err_mk (.inl rfl) a3 a0 l3 l0 i3 i0 k3 (by decide +kernel) f13_ f23_ f33_ f43_ f53_ f63_ f73_ tI hn ht (.inr (by decide +kernel)), PySem.W.mg_of X G a3, cl_at a3, I.1, I.2⟩
  · exact ⟨cl4, cE, fI, (iniD nm qu pa p1 p2 p3 p4 p5 p6 p7 p8 p9 q more kc dV kV doc pm an (.ref cc) ct), err_mk (.inl rfl) a4 a0 l4 l0 i4 i0 k4 (by decide +kernel) f14_ f24_ f34_ f44_ f54_ f64_ f74_ tI hn ht (.inr (by decide +kernel)), PySem.W.mg_of X G a4, cl_at a4, I.1, I.2⟩
  · exact ⟨cl5, cE, fI, (iniD nm qu pa p1 p2 p3 p4 p5 p6 p7 p8 p9 q more kc dV kV doc pm an (.ref cc) ct), err_mk (.inl rfl) a5 a0 l5 l0 i5 i0 k5 (by decide +kernel) f15_ f25_ f35_ f45_ f55_ f65_ f75_ tI hn ht (.inr (by decide +kernel)), PySem.W.mg_of X G a5, cl_at a5, I.1, I.2⟩
  · exact ⟨cl6, cE, fI, (iniD nm qu pa p1 p2 p3 p4 p5 p6 p7 p8 p9 q more kc dV kV doc pm an (.ref cc) ct), err_mk (.inl rfl) a6 a0 l6 l0 i6 i0 k6 (by decide +kernel) f16_ f26_ f36_ f46_ f56_ f66_ f76_ tI hn ht (.inr (by decide +kernel)), PySem.W.mg_of X G a6, cl_at a6, I.1, I.2⟩
  · exact ⟨cl7, cE, fI, (iniD nm qu pa p1 p2 p3 p4 p5 p6 p7 p8 p9 q more kc dV kV doc pm an (.ref cc) ct), err_mk (.inl rfl) a7 a0 l7 l0 i7 i0 k7 (by decide +kernel) f17_ f27_ f37_ f47_ f57_ f67_ f77_ tI hn ht (.inr (by decide +kernel)), PySem.W.mg_of X G a7, cl_at a7, I.1, I.2⟩
  · exact ⟨cl8, cE, fI, (iniD nm qu pa p1 p2 p3 p4 p5 p6 p7 p8 p9 q more kc dV kV doc pm an (.ref cc) ct), err_mk (.inl rfl) a8 a0 l8 l0 i8 i0 k8 (by decide +kernel) f18_ f28_ f38_ f48_ f58_ f68_ f78_ tI hn ht (.inr (by decide +kernel)), PySem.W.mg_of X G a8, cl_at a8, I.1, I.2⟩
  · exact ⟨cl9, cE, fI, (iniD nm qu pa p1 p2 p3 p4 p5 p6 p7 p8 p9 q more kc dV kV doc pm an (.ref cc) ct), err_mk (.inl rfl) a9 a0 l9 l0 i9 i0 k9 (by decide +kernel) f19_ f29_ f39_ f49_ f59_ f69_ f79_ tI hn ht (.inr (by decide +kernel)), PySem.W.mg_of X G a9, cl_at a9, I.1, I.2⟩
  · exact ⟨cl10, cE, fI, (iniD nm qu pa p1 p2 p3 p4 p5 p6 p7 p8 p9 q more kc dV kV doc pm an (.ref cc) ct), err_mk (.inl rfl) a10 a0 l10 l0 i10 i0 k10 (by decide +kernel) f110_ f210_ f310_ f410_ f510_ f610_ f710_ tI hn ht (.inr (by decide +kernel)), PySem.W.mg_of X G a10, cl_at a10, I.1, I.2⟩
  · exact ⟨cl11, cE, fI, (iniD nm qu pa p1 p2 p3 p4 p5 p6 p7 p8 p9 q more kc dV kV doc pm an (.ref cc) ct), err_mk (.inl rfl) a11 a0 l11 l0 i11 i0 k11 (by decide +kernel) f111_ f211_ f311_ f411_ f511_ f611_ f711_ tI hn ht (.inr (by decide +kernel)), PySem.W.mg_of X G a11, cl_at a11, I.1, I.2⟩
  · exact ⟨cl12, cE, fI, (iniD nm qu pa p1 p2 p3 p4 p5 p6 p7 p8 p9 q more kc dV kV doc pm an (.ref cc) ct), err_mk (.inl rfl) a12 a0 l12 l0 i12 i0 k12 (by decide +kernel) f112_ f212_ f312_ f412_ f512_ f612_ f712_ tI hn ht (.inr (by decide +kernel)), PySem.W.mg_of X G a12, cl_at a12, I.1, I.2⟩
  · exact ⟨cl13, cE, fI, (iniD nm qu pa p1 p2 p3 p4 p5 p6 p7 p8 p9 q more kc dV kV doc pm an (.ref cc) ct), err_mk (.inl rfl) a13 a0 l13 l0 i13 i0 k13 (by decide +kernel) f113_ f213_ f313_ f413_ f513_ f613_ f713_ tI hn ht (.inr (by decide +kernel)), PySem.W.mg_of X G a13, cl_at a13, I.1, I.2⟩
  · exact ⟨cl14, cE, fI, (iniD nm qu pa p1 p2 p3 p4 p5 p6 p7 p8 p9 q more kc dV kV doc pm an (.ref cc) ct), err_mk (.inl rfl) a14 a0 l14 l0 i14 i0 k14 (by decide +kernel) f114_ f214_ f314_ f414_ f514_ f614_ f714_ tI hn ht (.inr (by decide +kernel)), PySem.W.mg_of X G a14, cl_at a14, I.1, I.2⟩
  · exact ⟨cl15, cE, fI, (iniD nm qu pa p1 p2 p3 p4 p5 p6 p7 p8 p9 q more kc dV kV doc pm an (.ref cc) ct), err_mk (.inl rfl) a15 a0 l15 l0 i15 i0 k15 (by decide +kernel) f115_ f215_ f315_ f415_ f515_ f615_ f715_ tI hn ht (.inr (by decide +kernel)), PySem.W.mg_of X G a15, cl_at a15, I.1, I.2⟩
  · exact ⟨cl16, cE, fI, (iniD nm qu pa p1 p2 p3 p4 p5 p6 p7 p8 p9 q more kc dV kV doc pm an (.ref cc) ct), err_mk (.inl rfl) a16 a0 l16 l0 i16 i0 k16 (by decide +kernel) f116_ f216_ f316_ f416_ f516_ f616_ f716_ tI hn ht (.inr (by decide +kernel)), PySem.W.mg_of X G a16, cl_at a16, I.1, I.2⟩
  · exact ⟨cl17, cE, fI, (iniD nm qu pa p1 p2 p3 p4 p5 p6 p7 p8 p9 q more kc dV kV doc pm an (.ref cc) ct), err_mk (.inl rfl) a17 a0 l17 l0 i17 i0 k17 (by decide +kernel) f117_ f217_ f317_ f417_ f517_ f617_ f717_ tI hn ht (.inr (by decide +kernel)), PySem.W.mg_of X G a17, cl_at a17, I.1, I.2⟩
  · exact ⟨cl18, cE, fI, (iniD nm qu pa p1 p2 p3 p4 p5 p6 p7 p8 p9 q more kc dV kV doc pm an (.ref cc) ct), err_mk (.inl rfl) a18 a0 l18 l0 i18 i0 k18 (by decide +kernel) f118_ f218_ f318_ f418_ f518_ f618_ f718_ tI hn ht (.inr (by decide +kernel)), PySem.W.mg_of X G a18, cl_at a18, I.1, I.2⟩
  · exact ⟨cl19, cE, fI, (iniD nm qu pa p1 p2 p3 p4 p5 p6 p7 p8 p9 q more kc dV kV doc pm an (.ref cc) ct), err_mk (.inl rfl) a19 a0 l19 l0 i19 i0 k19 (by decide +kernel) f119_ f219_ f319_ f419_ f519_ f619_ f719_ tI hn ht (.inr (by decide +kernel)), PySem.W.mg_of X G a19, cl_at a19, I.1, I.2⟩
  · exact ⟨cl20, cE, fI, (iniD nm qu pa p1 p2 p3 p4 p5 p6 p7 p8 p9 q more kc dV kV doc pm an (.ref cc) ct), err_mk (.inl rfl) a20 a0 l20 l0 i20 i0 k20 (by decide +kernel) f120_ f220_ f320_ f420_ f520_ f620_ f720_ tI hn ht (.inr (by decide +kernel)), PySem.W.mg_of X G a20, cl_at a20, I.1, I.2⟩
  · exact ⟨cl21, cE, fI, (iniD nm qu pa p1 p2 p3 p4 p5 p6 p7 p8 p9 q more kc dV kV doc pm an (.ref cc) ct), err_mk (.inl rfl) a21 a0 l21 l0 i21 i0 k21 (by decide +kernel) f121_ f221_ f321_ f421_ f521_ f621_ f721_ tI hn ht (.inr (by decide +kernel)), PySem.W.mg_of X G a21, cl_at a21, I.1, I.2⟩
  · exact ⟨cl22, cE, fI, (iniD nm qu pa p1 p2 p3 p4 p5 p6 p7 p8 p9 q more kc dV kV doc pm an (.ref cc) ct), err_mk (.inl rfl) a22 a0 l22 l0 i22 i0 k22 (by decide +kernel) f122_ f222_ f322_ f422_ f522_ f622_ f722_ tI hn ht (.inr (by decide +kernel)), PySem.W.mg_of X G a22, cl_at a22, I.1, I.2⟩
  · exact ⟨cl23, cE, fI, (iniD nm qu pa p1 p2 p3 p4 p5 p6 p7 p8 p9 q more kc dV kV doc pm an (.ref cc) ct), err_mk (.inl rfl) a23 a0 l23 l0 i23 i0 k23 (by decide +kernel) f123_ f223_ f323_ f423_ f523_ f623_ f723_ tI hn ht (.inr (by decide +kernel)), PySem.W.mg_of X G a23, cl_at a23, I.1, I.2⟩
  · exact ⟨cl24, cE, fI, (iniD nm qu pa p1 p2 p3 p4 p5 p6 p7 p8 p9 q more kc dV kV doc pm an (.ref cc) ct), err_mk (.inl rfl) a24 a0 l24 l0 i24 i0 k24 (by decide +kernel) f124_ f224_ f324_ f424_ f524_ f624_ f724_ tI hn ht (.inr (by decide +kernel)), PySem.W.mg_of X G a24, cl_at a24, I.1, I.2⟩
  · exact ⟨cl25, cE, fI, (iniD nm qu pa p1 p2 p3 p4 p5 p6 p7 p8 p9 q more kc dV kV doc pm an (.ref cc) ct), err_mk (.inl rfl) a25 a0 l25 l0 i25 i0 k25 (by decide +kernel) f125_ f225_ f325_ f425_ f525_ f625_ f725_ tI hn ht (.inr (by decide +kernel)), PySem.W.mg_of X G a25, cl_at a25, I.1, I.2⟩
  · exact ⟨cl26, cE, fI, (iniD nm qu pa p1 p2 p3 p4 p5 p6 p7 p8 p9 q more kc dV kV doc pm an (.ref cc) ct), err_mk (.inl rfl) a26 a0 l26 l0 i26 i0 k26 (by decide +kernel) f126_ f226_ f326_ f426_ f526_ f626_ f726_ tI hn ht (.inr (by decide +kernel)), PySem.W.mg_of X G a26, cl_at a26, I.1, I.2⟩
  · exact ⟨cl27, cE, fI, (iniD nm qu pa p1 p2 p3 p4 p5 p6 p7 p8 p9 q more kc dV kV doc pm an (.ref cc) ct), err_mk (.inl rfl) a27 a0 l27 l0 i27 i0 k27 (by decide +kernel) f127_ f227_ f327_ f427_ f527_ f627_ f727_ tI hn ht (.inr (by decide +kernel)), PySem.W.mg_of X G a27, cl_at a27, I.1, I.2⟩
  · exact ⟨cl28, cE, fI, (iniD nm qu pa p1 p2 p3 p4 p5 p6 p7 p8 p9 q more kc dV kV doc pm an (.ref cc) ct), err_mk (.inl rfl) a28 a0 l28 l0 i28 i0 k28 (by decide +kernel) f128_ f228_ f328_ f428_ f528_ f628_ f728_ tI hn ht (.inr (by decide +kernel)), PySem.W.mg_of X G a28, cl_at a28, I.1, I.2⟩
  · exact ⟨cl29, cE, fI, (iniD nm qu pa p1 p2 p3 p4 p5 p6 p7 p8 p9 q more kc dV kV doc pm an (.ref cc) ct), err_mk (.inl rfl) a29 a0 l29 l0 i29 i0 k29 (by decide +kernel) f129_ f229_ f329_ f429_ f529_ f629_ f729_ tI hn ht (.inr (by decide +kernel)), PySem.W.mg_of X G a29, cl_at a29, I.1, I.2⟩
  · exact ⟨cl30, cE, fI, (iniD nm qu pa p1 p2 p3 p4 p5 p6 p7 p8 p9 q more kc dV kV doc pm an (.ref cc) ct), err_mk (.inl rfl) a30 a0 l30 l0 i30 i0 k30 (by decide +kernel) f130_ f230_ f330_ f430_ f530_ f630_ f730_ tI hn ht (.inr (by decide +kernel)), PySem.W.mg_of X G a30, cl_at a30, I.1, I.2⟩
  · exact ⟨cl31, cE, fI, (iniD nm qu pa p1 p2 p3 p4 p5 p6 p7 p8 p9 q more kc dV kV doc pm an (.ref cc) ct), err_mk (.inl rfl) a31 a0 l31 l0 i31 i0 k31 (by decide +kernel) f131_ f231_ f331_ f431_ f531_ f631_ f731_ tI hn ht (.inr (by decide +kernel)), PySem.W.mg_of X G a31, cl_at a31, I.1, I.2⟩
  · exact ⟨cl32, cE, fI, (iniD nm qu pa p1 p2 p3 p4 p5 p6 p7 p8 p9 q more kc dV kV doc pm an (.ref cc) ct), err_mk (.inl rfl) a32 a0 l32 l0 i32 i0 k32 (by decide +kernel) f132_ f232_ f332_ f432_ f532_ f632_ f732_ tI hn ht (.inr (by decide +kernel)), PySem.W.mg_of X G a32, cl_at a32, I.1, I.2⟩
  · exact ⟨cl33, cE, fI, (iniD nm qu pa p1 p2 p3 p4 p5 p6 p7 p8 p9 q more kc dV kV doc pm an (.ref cc) ct), err_mk (.inl rfl) a33 a0 l33 l0 i33 i0 k33 (by decide +kernel) f133_ f233_ f333_ f433_ f533_ f633_ f733_ tI hn ht (.inr (by decide +kernel)), PySem.W.mg_of X G a33, cl_at a33, I.1, I.2⟩
  · exact ⟨cl34, cE, fI, (iniD nm qu pa p1 p2 p3 p4 p5 p6 p7 p8 p9 q more kc dV kV doc pm an (.ref cc) ct), err_mk (.inl rfl) a34 a0 l34 l0 i34 i0 k34 (by decide +kernel) f134_ f234_ f334_ f434_ f534_ f634_ f734_ tI hn ht (.inr (by decide +kernel)), PySem.W.mg_of X G a34, cl_at a34, I.1, I.2⟩
  · exact ⟨cE, cE, fI, (iniD nm qu pa p1 p2 p3 p4 p5 p6 p7 p8 p9 q more kc dV kV doc pm an (.ref cc) ct), err_mk (.inr ⟨rfl, rfl⟩) a0 a0 l0 l0 i0 i0 k0 (by decide +kernel) f10_ f20_ f30_ f40_ f50_ f60_ f70_ tI hn ht (.inl rfl), PySem.W.mg_of X G a0, cl_at a0, I.1, I.2⟩
end K10
open PySem PySem.W PyProof.Rows in
theorem PySem.Challenge.cw_pouredastold_k10_errors_each_its_own_holds : PySem.Challenge.rw_pouredastold_k10_errors_each_its_own.Holds := by
  w_on; o_law; k_head; (case hw => w_witness2)
  k_fill
  refine Mi.walk_x (l := PySem.Challenge.rw_pouredastold_k10_errors_each_its_own) (k := 12) (i := 8) (w := K10.wd) (ds := K10.ds) rfl (by decide) rfl ⟨rfl, by decide, by decide⟩ rfl (fun w h Y => PySem.W.kIn_of Y) ?F ?FE K10.hv
  case FE =>
    intro wd mg h X G XP
    refine' K10.err_all X G ?ya0 ?yl0 ?yi0 ?yk0 ?yf10 ?yf20 ?yf30 ?yf40 ?yf50 ?yf60 ?yf70 ?ya1 ?yl1 ?yi1 ?yk1 ?yf11 ?yf21 ?yf31 ?yf41 ?yf51 ?yf61 ?yf71 ?ya2 ?yl2 ?yi2 ?yk2 ?yf12 ?yf22 ?yf32 ?yf42 ?yf52 ?yf62 ?yf72 ?ya3 ?yl3 ?yi3 ?yk3 ?yf13 ?yf23 ?yf33 ?yf43 ?yf53 ?yf63 ?yf73 ?ya4 ?yl4 ?yi4 ?yk4 ?yf14 ?yf24 ?yf34 ?yf44 ?yf54 ?yf64 ?yf74 ?ya5 ?yl5 ?yi5 ?yk5 ?yf15 ?yf25 ?yf35 ?yf45 ?yf55 ?yf65 ?yf75 ?ya6 ?yl6 ?yi6 ?yk6 ?yf16 ?yf26 ?yf36 ?yf46 ?yf56 ?yf66 ?yf76 ?ya7 ?yl7 ?yi7 ?yk7 ?yf17 ?yf27 ?yf37 ?yf47 ?yf57 ?yf67 ?yf77 ?ya8 ?yl8 ?yi8 ?yk8 ?yf18 ?yf28 ?yf38 ?yf48 ?yf58 ?yf68 ?yf78 ?ya9 ?yl9 ?yi9 ?yk9 ?yf19 ?yf29 ?yf39 ?yf49 ?yf59 ?yf69 ?yf79 ?ya10 ?yl10 ?yi10 ?yk10 ?yf110 ?yf210 ?yf310 ?yf410 ?yf510 ?yf610 ?yf710 ?ya11 ?yl11 ?yi11 ?yk11 ?yf111 ?yf211 ?yf311 ?yf411 ?yf511 ?yf611 ?yf711 ?ya12 ?yl12 ?yi12 ?yk12 ?yf112 ?yf212 ?yf312 ?yf412 ?yf512 ?yf612 ?yf712 ?ya13 ?yl13 ?yi13 ?yk13 ?yf113 ?yf213 ?yf313 ?yf413 ?yf513 ?yf613 ?yf713 ?ya14 ?yl14 ?yi14 ?yk14 ?yf114 ?yf214 ?yf314 ?yf414 ?yf514 ?yf614 ?yf714 ?ya15 ?yl15 ?yi15 ?yk15 ?yf115 ?yf215 ?yf315 ?yf415 ?yf515 ?yf615 ?yf715 ?ya16 ?yl16 ?yi16 ?yk16 ?yf116 ?yf216 ?yf316 ?yf416 ?yf516 ?yf616 ?yf716 ?ya17 ?yl17 ?yi17 ?yk17 ?yf117 ?yf217 ?yf317 ?yf417 ?yf517 ?yf617 ?yf717 ?ya18 ?yl18 ?yi18 ?yk18 ?yf118 ?yf218 ?yf318 ?yf418 ?yf518 ?yf618 ?yf718 ?ya19 ?yl19 ?yi19 ?yk19 ?yf119 ?yf219 ?yf319 ?yf419 ?yf519 ?yf619 ?yf719 ?ya20 ?yl20 ?yi20 ?yk20 ?yf120 ?yf220 ?yf320 ?yf420 ?yf520 ?yf620 ?yf720 ?ya21 ?yl21 ?yi21 ?yk21 ?yf121 ?yf221 ?yf321 ?yf421 ?yf521 ?yf621 ?yf721 ?ya22 ?yl22 ?yi22 ?yk22 ?yf122 ?yf222 ?yf322 ?yf422 ?yf522 ?yf622 ?yf722 ?ya23 ?yl23 ?yi23 ?yk23 ?yf123 ?yf223 ?yf323 ?yf423 ?yf523 ?yf623 ?yf723 ?ya24 ?yl24 ?yi24 ?yk24 ?yf124 ?yf224 ?yf324 ?yf424 ?yf524 ?yf624 ?yf724 ?ya25 ?yl25 ?yi25 ?yk25 ?yf125 ?yf225 ?yf325 ?yf425 ?yf525 ?yf625 ?yf725 ?ya26 ?yl26 ?yi26 ?yk26 ?yf126 ?yf226 ?yf326 ?yf426 ?yf526 ?yf626 ?yf726 ?ya27 ?yl27 ?yi27 ?yk27 ?yf127 ?yf227 ?yf327 ?yf427 ?yf527 ?yf627 ?yf727 ?ya28 ?yl28 ?yi28 ?yk28 ?yf128 ?yf228 ?yf328 ?yf428 ?yf528 ?yf628 ?yf728 ?ya29 ?yl29 ?yi29 ?yk29 ?yf129 ?yf229 ?yf329 ?yf429 ?yf529 ?yf629 ?yf729 ?ya30 ?yl30 ?yi30 ?yk30 ?yf130 ?yf230 ?yf330 ?yf430 ?yf530 ?yf630 ?yf730 ?ya31 ?yl31 ?yi31 ?yk31 ?yf131 ?yf231 ?yf331 ?yf431 ?yf531 ?yf631 ?yf731 ?ya32 ?yl32 ?yi32 ?yk32 ?yf132 ?yf232 ?yf332 ?yf432 ?yf532 ?yf632 ?yf732 ?ya33 ?yl33 ?yi33 ?yk33 ?yf133 ?yf233 ?yf333 ?yf433 ?yf533 ?yf633 ?yf733 ?ya34 ?yl34 ?yi34 ?yk34 ?yf134 ?yf234 ?yf334 ?yf434 ?yf534 ?yf634 ?yf734 ?ytI ?yhn ?yht ?ylI ?yiI ?ylc ?ydc ?yv1 ?yv2 ?ylk ?ydk ?yany ?ysup ?yhpp ?yap ?yaa ?yhb
    (case ya0 => k_is)
    (case yl0 => k_is)
    (case yi0 => exact ⟨_, _, _, _, _, _, _, _, _, _, _, _, _, rfl⟩)
    (case yk0 => k_is)
    (case yf10 => k_is)
    (case yf20 => k_is)
    (case yf30 => k_is)
    (case yf40 => k_is)
    (case yf50 => k_is)
    (case yf60 => k_is)
    (case yf70 => k_is)
    (case ya1 => k_is)
    (case yl1 => k_is)
    (case yi1 => exact ⟨_, _, _, _, _, _, _, _, _, _, _, _, _, rfl⟩)
    (case yk1 => k_is)
    (case yf11 => k_is)
    (case yf21 => k_is)
    (case yf31 => k_is)
    (case yf41 => k_is)
    (case yf51 => k_is)
    (case yf61 => k_is)
    (case yf71 => k_is)
    (case ya2 => k_is)
    (case yl2 => k_is)
    (case yi2 => exact ⟨_, _, _, _, _, _, _, _, _, _, _, _, _, rfl⟩)
    (case yk2 => k_is)
    (case yf12 => k_is)
    (case yf22 => k_is)
    (case yf32 => k_is)
    (case yf42 => k_is)
    (case yf52 => k_is)
    (case yf62 => k_is)
    (case yf72 => k_is)
    (case ya3 => k_is)
    (case yl3 => k_is)
    (case yi3 => exact ⟨_, _, _, _, _, _, _, _, _, _, _, _, _, rfl⟩)
    (case yk3 => k_is)
    (case yf13 => k_is)
    (case yf23 => k_is)
    (case yf33 => k_is)
    (case yf43 => k_is)
    (case yf53 => k_is)
    (case yf63 => k_is)
    (case yf73 => k_is)
    (case ya4 => k_is)
    (case yl4 => k_is)
    (case yi4 => exact ⟨_, _, _, _, _, _, _, _, _, _, _, _, _, rfl⟩)
    (case yk4 => k_is)
    (case yf14 => k_is)
    (case yf24 => k_is)
    (case yf34 => k_is)
    (case yf44 => k_is)
    (case yf54 => k_is)
    (case yf64 => k_is)
    (case yf74 => k_is)
    (case ya5 => k_is)
    (case yl5 => k_is)
    (case yi5 => exact ⟨_, _, _, _, _, _, _, _, _, _, _, _, _, rfl⟩)
    (case yk5 => k_is)
    (case yf15 => k_is)
    (case yf25 => k_is)
    (case yf35 => k_is)
    (case yf45 => k_is)
    (case yf55 => k_is)
    (case yf65 => k_is)
    (case yf75 => k_is)
    (case ya6 => k_is)
    (case yl6 => k_is)
    (case yi6 => exact ⟨_, _, _, _, _, _, _, _, _, _, _, _, _, rfl⟩)
    (case yk6 => k_is)
    (case yf16 => k_is)
    (case yf26 => k_is)
    (case yf36 => k_is)
    (case yf46 => k_is)
    (case yf56 => k_is)
    (case yf66 => k_is)
    (case yf76 => k_is)
    (case ya7 => k_is)
    (case yl7 => k_is)
    (case yi7 => exact ⟨_, _, _, _, _, _, _, _, _, _, _, _, _, rfl⟩)
    (case yk7 => k_is)
    (case yf17 => k_is)
    (case yf27 => k_is)
    (case yf37 => k_is)
    (case yf47 => k_is)
    (case yf57 => k_is)
    (case yf67 => k_is)
    (case yf77 => k_is)
    (case ya8 => k_is)
    (case yl8 => k_is)
    (case yi8 => exact ⟨_, _, _, _, _, _, _, _, _, _, _, _, _, rfl⟩)
    (case yk8 => k_is)
    (case yf18 => k_is)
    (case yf28 => k_is)
    (case yf38 => k_is)
    (case yf48 => k_is)
    (case yf58 => k_is)
    (case yf68 => k_is)
    (case yf78 => k_is)
    (case ya9 => k_is)
    (case yl9 => k_is)
    (case yi9 => exact ⟨_, _, _, _, _, _, _, _, _, _, _, _, _, rfl⟩)
    (case yk9 => k_is)
    (case yf19 => k_is)
    (case yf29 => k_is)
    (case yf39 => k_is)
    (case yf49 => k_is)
    (case yf59 => k_is)
    (case yf69 => k_is)
    (case yf79 => k_is)
    (case ya10 => k_is)
    (case yl10 => k_is)
    (case yi10 => exact ⟨_, _, _, _, _, _, _, _, _, _, _, _, _, rfl⟩)
    (case yk10 => k_is)
    (case yf110 => k_is)
    (case yf210 => k_is)
    (case yf310 => k_is)
    (case yf410 => k_is)
    (case yf510 => k_is)
    (case yf610 => k_is)
    (case yf710 => k_is)
    (case ya11 => k_is)
    (case yl11 => k_is)
    (case yi11 => exact ⟨_, _, _, _, _, _, _, _, _, _, _, _, _, rfl⟩)
    (case yk11 => k_is)
    (case yf111 => k_is)
    (case yf211 => k_is)
    (case yf311 => k_is)
    (case yf411 => k_is)
    (case yf511 => k_is)
    (case yf611 => k_is)
    (case yf711 => k_is)
    (case ya12 => k_is)
    (case yl12 => k_is)
    (case yi12 => exact ⟨_, _, _, _, _, _, _, _, _, _, _, _, _, rfl⟩)
    (case yk12 => k_is)
    (case yf112 => k_is)
    (case yf212 => k_is)
    (case yf312 => k_is)
    (case yf412 => k_is)
    (case yf512 => k_is)
    (case yf612 => k_is)
    (case yf712 => k_is)
    (case ya13 => k_is)
    (case yl13 => k_is)
    (case yi13 => exact ⟨_, _, _, _, _, _, _, _, _, _, _, _, _, rfl⟩)
    (case yk13 => k_is)
    (case yf113 => k_is)
    (case yf213 => k_is)
    (case yf313 => k_is)
    (case yf413 => k_is)
    (case yf513 => k_is)
    (case yf613 => k_is)
    (case yf713 => k_is)
    (case ya14 => k_is)
    (case yl14 => k_is)
    (case yi14 => exact ⟨_, _, _, _, _, _, _, _, _, _, _, _, _, rfl⟩)
    (case yk14 => k_is)
    (case yf114 => k_is)
    (case yf214 => k_is)
    (case yf314 => k_is)
    (case yf414 => k_is)
    (case yf514 => k_is)
    (case yf614 => k_is)
    (case yf714 => k_is)
    (case ya15 => k_is)
    (case yl15 => k_is)
    (case yi15 => exact ⟨_, _, _, _, _, _, _, _, _, _, _, _, _, rfl⟩)
    (case yk15 => k_is)
    (case yf115 => k_is)
    (case yf215 => k_is)
    (case yf315 => k_is)
    (case yf415 => k_is)
    (case yf515 => k_is)
    (case yf615 => k_is)
    (case yf715 => k_is)
    (case ya16 => k_is)
    (case yl16 => k_is)
    (case yi16 => exact ⟨_, _, _, _, _, _, _, _, _, _, _, _, _, rfl⟩)
    (case yk16 => k_is)
    (case yf116 => k_is)
    (case yf216 => k_is)
    (case yf316 => k_is)
    (case yf416 => k_is)
    (case yf516 => k_is)
    (case yf616 => k_is)
    (case yf716 => k_is)
    (case ya17 => k_is)
    (case yl17 => k_is)
    (case yi17 => exact ⟨_, _, _, _, _, _, _, _, _, _, _, _, _, rfl⟩)
    (case yk17 => k_is)
    (case yf117 => k_is)
    (case yf217 => k_is)
    (case yf317 => k_is)
    (case yf417 => k_is)
    (case yf517 => k_is)
    (case yf617 => k_is)
    (case yf717 => k_is)
    (case ya18 => k_is)
    (case yl18 => k_is)
    (case yi18 => exact ⟨_, _, _, _, _, _, _, _, _, _, _, _, _, rfl⟩)
    (case yk18 => k_is)
    (case yf118 => k_is)
    (case yf218 => k_is)
    (case yf318 => k_is)
    (case yf418 => k_is)
    (case yf518 => k_is)
    (case yf618 => k_is)
    (case yf718 => k_is)
    (case ya19 => k_is)
    (case yl19 => k_is)
    (case yi19 => exact ⟨_, _, _, _, _, _, _, _, _, _, _, _, _, rfl⟩)
    (case yk19 => k_is)
    (case yf119 => k_is)
    (case yf219 => k_is)
    (case yf319 => k_is)
    (case yf419 => k_is)
    (case yf519 => k_is)
    (case yf619 => k_is)
    (case yf719 => k_is)
    (case ya20 => k_is)
    (case yl20 => k_is)
    (case yi20 => exact ⟨_, _, _, _, _, _, _, _, _, _, _, _, _, rfl⟩)
    (case yk20 => k_is)
    (case yf120 => k_is)
    (case yf220 => k_is)
    (case yf320 => k_is)
    (case yf420 => k_is)
    (case yf520 => k_is)
    (case yf620 => k_is)
    (case yf720 => k_is)
    (case ya21 => k_is)
    (case yl21 => k_is)
    (case yi21 => exact ⟨_, _, _, _, _, _, _, _, _, _, _, _, _, rfl⟩)
    (case yk21 => k_is)
    (case yf121 => k_is)
    (case yf221 => k_is)
    (case yf321 => k_is)
    (case yf421 => k_is)
    (case yf521 => k_is)
    (case yf621 => k_is)
    (case yf721 => k_is)
    (case ya22 => k_is)
    (case yl22 => k_is)
    (case yi22 => exact ⟨_, _, _, _, _, _, _, _, _, _, _, _, _, rfl⟩)
    (case yk22 => k_is)
    (case yf122 => k_is)
    (case yf222 => k_is)
    (case yf322 => k_is)
    (case yf422 => k_is)
    (case yf522 => k_is)
    (case yf622 => k_is)
    (case yf722 => k_is)
    (case ya23 => k_is)
    (case yl23 => k_is)
    (case yi23 => exact ⟨_, _, _, _, _, _, _, _, _, _, _, _, _, rfl⟩)
    (case yk23 => k_is)
    (case yf123 => k_is)
    (case yf223 => k_is)
    (case yf323 => k_is)
    (case yf423 => k_is)
    (case yf523 => k_is)
    (case yf623 => k_is)
    (case yf723 => k_is)
    (case ya24 => k_is)
    (case yl24 => k_is)
    (case yi24 => exact ⟨_, _, _, _, _, _, _, _, _, _, _, _, _, rfl⟩)
    (case yk24 => k_is)
    (case yf124 => k_is)
    (case yf224 => k_is)
    (case yf324 => k_is)
    (case yf424 => k_is)
    (case yf524 => k_is)
    (case yf624 => k_is)
    (case yf724 => k_is)
    (case ya25 => k_is)
    (case yl25 => k_is)
    (case yi25 => exact ⟨_, _, _, _, _, _, _, _, _, _, _, _, _, rfl⟩)
    (case yk25 => k_is)
    (case yf125 => k_is)
    (case yf225 => k_is)
    (case yf325 => k_is)
    (case yf425 => k_is)
    (case yf525 => k_is)
    (case yf625 => k_is)
    (case yf725 => k_is)
    (case ya26 => k_is)
    (case yl26 => k_is)
    (case yi26 => exact ⟨_, _, _, _, _, _, _, _, _, _, _, _, _, rfl⟩)
    (case yk26 => k_is)
    (case yf126 => k_is)
    (case yf226 => k_is)
    (case yf326 => k_is)
    (case yf426 => k_is)
    (case yf526 => k_is)
    (case yf626 => k_is)
    (case yf726 => k_is)
    (case ya27 => k_is)
    (case yl27 => k_is)
    (case yi27 => exact ⟨_, _, _, _, _, _, _, _, _, _, _, _, _, rfl⟩)
    (case yk27 => k_is)
    (case yf127 => k_is)
    (case yf227 => k_is)
    (case yf327 => k_is)
    (case yf427 => k_is)
    (case yf527 => k_is)
    (case yf627 => k_is)
    (case yf727 => k_is)
    (case ya28 => k_is)
    (case yl28 => k_is)
    (case yi28 => exact ⟨_, _, _, _, _, _, _, _, _, _, _, _, _, rfl⟩)
    (case yk28 => k_is)
    (case yf128 => k_is)
    (case yf228 => k_is)
    (case yf328 => k_is)
    (case yf428 => k_is)
    (case yf528 => k_is)
    (case yf628 => k_is)
    (case yf728 => k_is)
    (case ya29 => k_is)
    (case yl29 => k_is)
    (case yi29 => exact ⟨_, _, _, _, _, _, _, _, _, _, _, _, _, rfl⟩)
    (case yk29 => k_is)
    (case yf129 => k_is)
    (case yf229 => k_is)
    (case yf329 => k_is)
    (case yf429 => k_is)
    (case yf529 => k_is)
    (case yf629 => k_is)
    (case yf729 => k_is)
    (case ya30 => k_is)
    (case yl30 => k_is)
    (case yi30 => exact ⟨_, _, _, _, _, _, _, _, _, _, _, _, _, rfl⟩)
    (case yk30 => k_is)
    (case yf130 => k_is)
    (case yf230 => k_is)
    (case yf330 => k_is)
    (case yf430 => k_is)
    (case yf530 => k_is)
    (case yf630 => k_is)
    (case yf730 => k_is)
    (case ya31 => k_is)
    (case yl31 => k_is)
    (case yi31 => exact ⟨_, _, _, _, _, _, _, _, _, _, _, _, _, rfl⟩)
    (case yk31 => k_is)
    (case yf131 => k_is)
    (case yf231 => k_is)
    (case yf331 => k_is)
    (case yf431 => k_is)
    (case yf531 => k_is)
    (case yf631 => k_is)
    (case yf731 => k_is)
    (case ya32 => k_is)
    (case yl32 => k_is)
    (case yi32 => exact ⟨_, _, _, _, _, _, _, _, _, _, _, _, _, rfl⟩)
    (case yk32 => k_is)
    (case yf132 => k_is)
    (case yf232 => k_is)
    (case yf332 => k_is)
    (case yf432 => k_is)
    (case yf532 => k_is)
    (case yf632 => k_is)
    (case yf732 => k_is)
    (case ya33 => k_is)
    (case yl33 => k_is)
    (case yi33 => exact ⟨_, _, _, _, _, _, _, _, _, _, _, _, _, rfl⟩)
    (case yk33 => k_is)
    (case yf133 => k_is)
    (case yf233 => k_is)
    (case yf333 => k_is)
    (case yf433 => k_is)
    (case yf533 => k_is)
    (case yf633 => k_is)
    (case yf733 => k_is)
    (case ya34 => k_is)
    (case yl34 => k_is)
    (case yi34 => exact ⟨_, _, _, _, _, _, _, _, _, _, _, _, _, rfl⟩)
    (case yk34 => k_is)
    (case yf134 => k_is)
    (case yf234 => k_is)
    (case yf334 => k_is)
    (case yf434 => k_is)
    (case yf534 => k_is)
    (case yf634 => k_is)
    (case yf734 => k_is)
    (case ytI => k_is)
    (case yhn => k_is)
    (case yht => k_is)
    (case ylI => k_is)
    (case yiI => exact ⟨_, _, rfl⟩)
    (case ylc => k_is)
    (case ydc => rfl)
    (case yv1 => rfl)
    (case yv2 => rfl)
    (case ylk => k_is)
    (case ydk => rfl)
    (case yany => k_is)
    (case ysup => k_is)
    (case yhpp => decide +kernel)
    (case yap => rfl)
    (case yaa => decide +kernel)
    (case yhb => exact fun us hl => match us, hl with | [_, _], _ => rfl)
  case F =>
    intro wd mg h X G XP
    refine' K10.law_mk X G ?za0 ?zl0 ?zc0 ?zk0 ?za1 ?zl1 ?zc1 ?zk1 ?za2 ?zl2 ?zc2 ?zk2 ?za3 ?zl3 ?zc3 ?zk3 ?za4 ?zl4 ?zc4 ?zk4 ?za5 ?zl5 ?zc5 ?zk5 ?za6 ?zl6 ?zc6 ?zk6 ?za7 ?zl7 ?zc7 ?zk7 ?za8 ?zl8 ?zc8 ?zk8 ?zn0 ?zn1 ?zn2 ?zn3 ?zn4 ?zn5 ?zn6 ?zn7 ?zn8 ?zn9 ?zn10 ?zn11 ?zn12 ?zn13 ?zn14 ?zn15 ?zn16 ?zn17 ?zn18 ?zn19 ?zn20 ?zn21
    (case za0 => k_is)
    (case zl0 => k_is)
    (case zc0 => k_is)
    (case zk0 => k_is)
    (case za1 => k_is)
    (case zl1 => k_is)
    (case zc1 => k_is)
    (case zk1 => k_is)
    (case za2 => k_is)
    (case zl2 => k_is)
    (case zc2 => k_is)
    (case zk2 => k_is)
    (case za3 => k_is)
    (case zl3 => k_is)
    (case zc3 => k_is)
    (case zk3 => k_is)
    (case za4 => k_is)
    (case zl4 => k_is)
    (case zc4 => k_is)
    (case zk4 => k_is)
    (case za5 => k_is)
    (case zl5 => k_is)
    (case zc5 => k_is)
    (case zk5 => k_is)
    (case za6 => k_is)
    (case zl6 => k_is)
    (case zc6 => k_is)
    (case zk6 => k_is)
    (case za7 => k_is)
    (case zl7 => k_is)
    (case zc7 => k_is)
    (case zk7 => k_is)
    (case za8 => k_is)
    (case zl8 => k_is)
    (case zc8 => k_is)
    (case zk8 => k_is)
    (case zn0 => k_is)
    (case zn1 => k_is)
    (case zn2 => k_is)
    (case zn3 => k_is)
    (case zn4 => k_is)
    (case zn5 => k_is)
    (case zn6 => k_is)
    (case zn7 => k_is)
    (case zn8 => k_is)
    (case zn9 => k_is)
    (case zn10 => k_is)
    (case zn11 => k_is)
    (case zn12 => k_is)
    (case zn13 => k_is)
    (case zn14 => k_is)
    (case zn15 => k_is)
    (case zn16 => k_is)
    (case zn17 => k_is)
    (case zn18 => k_is)
    (case zn19 => k_is)
    (case zn20 => k_is)
    (case zn21 => k_is)
