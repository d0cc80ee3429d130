import PyProof.Rows.All
import Wide.All
import OpenK.AllK
import Wide.FinOn
import HandS.ForMost
import HandS.TupAny
import HandS.TupMul
import HandS.Deep
import HandS.IsInst
import HandS.Call
import HandS.List
import HandS.Comp
import HandS.Iter
import HandS.ExcOwn
import HandS.Star
import HandS.EndTab
import HandS.Zip
import HandS.Flow
import HandS.Wide
import HandS.Style
import HandS.Exc
import HandS.Codes
import KE.SortData
import KE.KTupSum
import KE.KRevSl
import KE.DataMinMax
import HandS.SetFor
import HandS.Remove
import HandS.Conv
import HandS.Words
import HandS.EndBits
import PyProof.Claim2Refuses
import PyProof.Rows.SetFrom
import KE.GoesEnum
import KE.GoesMore
import PyProof.EnumMake
import PyProof.EnumFor
import KE.GoesZip
import KE.KItemsList
import HandS.ExcValue
import HandS.BoundDict
import HandS.DictComp
import HandS.Small
import KE.DatumOrd
import PySem.Challenge.RW_pouredastold_k69_whole_rackings_halved_a
section
set_option Elab.async false
set_option linter.all false
set_option maxRecDepth 100000
/-! M1: Mini. Trees with positions (T, toE gives the row's own expression), data, stores, a pure evaluator. -/
namespace Mi
noncomputable section
open PySem
abbrev P := PyData
/-- a thing of the store: a list of data (z = 0: may be changed, else given away as data), a list of refs, a dict -/
inductive Ob where
  | lp (z : Nat) (xs : List P)
  | lr (xs : List Nat)
  | dp (z : Nat) (kvs : List (P × P))
  | no
/-- a value: data, or a thing of the store -/
inductive Vl where
  | p (x : P)
  | r (n : Nat)
abbrev En := List (Option Vl)
abbrev Sr := List Ob
inductive R (α : Type) where
  | ok (a : α) (s : Sr)
  | ex (c : Nat) (x : P) (s : Sr)
  | no
inductive X where
  | nx (e : En) (s : Sr)
  | rt (v : Vl) (s : Sr)
  | bk (e : En) (s : Sr)
  | ct (e : En) (s : Sr)
  | ex (c : Nat) (x : P) (s : Sr)
  | no
def R.bd {α β : Type} (m : R α) (f : α → Sr → R β) : R β := match m with
  | .ok a s => f a s
  | .ex c x s => .ex c x s
  | .no => .no
def R.bx {α : Type} (m : R α) (f : α → Sr → X) : X := match m with
  | .ok a s => f a s
  | .ex c x s => .ex c x s
  | .no => .no
def R.of {α : Type} (o : Option α) (s : Sr) : R α := match o with
  | some a => .ok a s
  | none => .no
/-- what is read of a value as data -/
def dd : Vl → Sr → Option P
  | .p x, _ => some x
  | .r n, s => match s[n]? with
    | some (.lp _ xs) => some (.list xs)
    | _ => none
def ddL : List Vl → Sr → Option (List P)
  | [], _ => some []
  | v :: r, s => match dd v s, ddL r s with
    | some x, some xs => some (x :: xs)
    | _, _ => none
/-- given away as data -/
def toP : Vl → Sr → Option (P × Sr)
  | .p x, s => some (x, s)
  | .r n, s => match s[n]? with
    | some (.lp _ xs) => some (.list xs, s.set n (.lp 1 xs))
    | _ => none
def toPL : List Vl → Sr → Option (List P × Sr)
  | [], s => some ([], s)
  | v :: r, s => match toP v s with
    | some (x, s) => match toPL r s with
      | some (xs, s) => some (x :: xs, s)
      | none => none
    | none => none
def lim : Nat := 1000000
def ints? : List P → Option (List Int)
  | [] => some []
  | .int i :: r => (ints? r).map (i :: ·)
  | _ => none
def bools? : List P → Option (List Bool)
  | [] => some []
  | .bool b :: r => (bools? r).map (b :: ·)
  | _ => none
def tru : P → Option Bool
  | .none => some false
  | .bool b => some b
  | .int i => some (i != 0)
  | .str y => if y.length ≤ lim then some ((y.length : Int) != 0) else none
  | .list xs => some (!xs.isEmpty)
  | .tuple xs => some (!xs.isEmpty)
  | .dict _ => none
def MulOk (i j : Int) : Prop := (-18446744073709551616 < i ∧ i < 18446744073709551616) ∨ (-18446744073709551616 < j ∧ j < 18446744073709551616) ∨ i.natAbs.log2 + j.natAbs.log2 < 1000000
instance (i j : Int) : Decidable (MulOk i j) := Classical.propDecidable _
def DivOk (j : Int) : Prop := (0 < j ∧ j < 1073741824) ∨ (0 < j ∧ j.natAbs.log2 < 9000)
instance (j : Int) : Decidable (DivOk j) := Classical.propDecidable _
def PowOk (i j : Int) : Prop := 0 ≤ j ∧ ((i.natAbs : Int) < 18446744073709551616 ∧ j ≤ 1000000 ∨ (i.natAbs.log2 + 1 : Int) * j ≤ 134217728)
instance (i j : Int) : Decidable (PowOk i j) := Classical.propDecidable _
def rep {α : Type} (xs : List α) (n : Nat) : List α := (List.replicate n xs).flatten
def binP : Operator → P → P → Option P
  | .Add, .int i, .int j => some (.int (i + j))
  | .Add, .str i, .str j => if i.length + j.length ≤ lim then some (.str (i ++ j)) else none
  | .Add, .tuple xs, .tuple ys => if xs.length + ys.length ≤ lim then some (.tuple (xs ++ ys)) else none
  | .Add, .list xs, .list ys => if xs.length + ys.length ≤ lim then some (.list (xs ++ ys)) else none
  | .Sub, .int i, .int j => some (.int (i - j))
  | .Mult, .int i, .int j => if MulOk i j then some (.int (i * j)) else none
  | .Mult, .tuple xs, .int k => if xs ≠ [] ∧ 1 ≤ k ∧ k ≤ 1000 ∧ xs.length ≤ 1000 then some (.tuple (rep xs k.toNat)) else none
  | .Mult, .list xs, .int k => if 0 ≤ k ∧ k ≤ lim ∧ xs.length * k.toNat ≤ lim then some (.list (rep xs k.toNat)) else none
  | .FloorDiv, .int i, .int j => if DivOk j then some (.int (i / j)) else none
  | .Mod, .int i, .int j => if 0 < j then some (.int (i % j)) else none
  | .Pow, .int i, .int j => if PowOk i j then some (.int (i ^ j.toNat)) else none
  | _, _, _ => none
def sh (x : P) : Bool := SeqAt.shaped x
def cmpP : CmpOp → P → P → Option Bool
  | .Eq, .int i, .int j => some (decide (i = j))
  | .Eq, .str i, .str j => some (decide (i = j))
  | .Eq, x, y => if sh x && sh y then some (PyData.eqv x y) else none
  | .NotEq, .int i, .int j => some (!decide (i = j))
  | .NotEq, .str i, .str j => some (!decide (i = j))
  | .NotEq, x, y => if sh x && sh y then some (!PyData.eqv x y) else none
  | .Lt, .int i, .int j => some (decide (i < j))
  | .LtE, .int i, .int j => some (decide (i ≤ j))
  | .Gt, .int i, .int j => some (decide (j < i))
  | .GtE, .int i, .int j => some (decide (j ≤ i))
  | .Is, .bool i, .bool j => some (i == j)
  | .IsNot, .bool i, .bool j => some (!(i == j))
  | .Is, .none, .none => some true
  | .Is, _, .none => some false
  | .IsNot, .none, .none => some false
  | .IsNot, _, .none => some true
  | .In, x, .list ys => if sh x && sh (.list ys) then some (ys.any fun y => PyData.eqv y x) else none
  | .In, x, .tuple ys => if sh x && sh (.tuple ys) then some (ys.any fun y => PyData.eqv y x) else none
  | .NotIn, x, .list ys => if sh x && sh (.list ys) then some (!ys.any fun y => PyData.eqv y x) else none
  | .NotIn, x, .tuple ys => if sh x && sh (.tuple ys) then some (!ys.any fun y => PyData.eqv y x) else none
  | _, _, _ => none
/-- a place in a sequence -/
def ixP : P → P → Option P
  | .list xs, .int i => L2.atI xs i
  | .tuple xs, .int i => L2.atI xs i
  | .str z, .int i => if z.length ≤ lim then (L2.atI z.cps.toList i).map fun c => .str ⟨#[c]⟩ else none
  | _, _ => none
def cut {α : Type} (xs : List α) (lo hi : Option Int) : List α :=
  (xs.drop (HT.sIx xs.length 0 lo)).take (HT.sIx xs.length xs.length hi - HT.sIx xs.length 0 lo)
def slP : P → Option Int → Option Int → Option P
  | .list xs, lo, hi => some (.list (cut xs lo hi))
  | .tuple xs, lo, hi => some (.tuple (cut xs lo hi))
  | _, _, _ => none
inductive Bi where
  | len | int | abs | max | min | sum | all | any | tuple | list | sorted
  deriving DecidableEq
def maxI : Int → List Int → Int
  | m, [] => m
  | m, x :: r => maxI (if x > m then x else m) r
def minI : Int → List Int → Int
  | m, [] => m
  | m, x :: r => minI (if x < m then x else m) r
/-- items that sorted takes: all of one shape, all tuples with an item, or none a tuple -/
def isTup1 : P → Bool
  | .tuple (_ :: _) => true
  | _ => false
def noTup : P → Bool
  | .tuple _ => false
  | .none => false
  | _ => true
def okSort (xs : List P) : Bool := (xs.all fun a => xs.all fun b => W.alike a b) && (xs.all isTup1 || xs.all noTup) && xs.all fun a => decide (a.depth ≤ 50)
def sortP (xs : List P) : List P := xs.mergeSort (W.dataLe false id)
/-- items that max and min take: all of one shape, none None -/
def isNon : P → Bool
  | .none => true
  | _ => false
def okMx (xs : List P) : Bool := (xs.all fun a => xs.all fun b => W.alike a b) && xs.all fun a => !isNon a && decide (a.depth ≤ 50)
def mxP (f : P → List P → P) : List P → Option P
  | x :: r => if okMx (x :: r) then some (f x r) else none
  | [] => none
def biP : Bi → List P → Option P
  | .len, [.str x] => if x.length ≤ lim then some (.int x.length) else none
  | .len, [.list xs] => some (.int xs.length)
  | .len, [.tuple xs] => some (.int xs.length)
  | .len, [.dict kvs] => some (.int kvs.length)
  | .int, [.int i] => some (.int i)
  | .int, [.bool b] => some (.int (if b then 1 else 0))
  | .abs, [.int i] => some (.int (if i < 0 then -i else i))
  | .max, [.int i, .int j] => some (.int (if j > i then j else i))
  | .min, [.int i, .int j] => some (.int (if j < i then j else i))
  | .max, [.list xs] => match ints? xs with
    | some (m :: r) => some (.int (maxI m r))
    | _ => mxP W.maxD xs
  | .max, [.tuple xs] => mxP W.maxD xs
  | .min, [.list xs] => match ints? xs with
    | some (m :: r) => some (.int (minI m r))
    | _ => mxP W.minD xs
  | .min, [.tuple xs] => mxP W.minD xs
  | .sum, [.list xs] => (ints? xs).map fun ns => .int ns.sum
  | .sum, [.tuple xs] => (ints? xs).map fun ns => .int ns.sum
  | .all, [.list xs] => (bools? xs).map fun bs => .bool (bs.all id)
  | .any, [.list xs] => (bools? xs).map fun bs => .bool (bs.any id)
  | .tuple, [.list xs] => some (.tuple xs)
  | .tuple, [.tuple xs] => some (.tuple xs)
  | .list, [.list xs] => some (.list xs)
  | .list, [.tuple xs] => some (.list xs)
  | .sorted, [.list xs] => if okSort xs then some (.list (sortP xs)) else none
  | .sorted, [.tuple xs] => if okSort xs then some (.list (sortP xs)) else none
  | _, _ => none
/-! dicts, keys ints and texts -/
def dkEq : P → P → Bool
  | .int i, .int j => decide (i = j)
  | .str i, .str j => decide (i = j)
  | _, _ => false
def isKey : P → Bool
  | .int _ => true
  | .str _ => true
  | _ => false
def dget (kvs : List (P × P)) (k : P) : Option P := (kvs.find? fun q => dkEq q.1 k).map (·.2)
def dput (kvs : List (P × P)) (k v : P) : List (P × P) := if (dget kvs k).isSome then kvs.map fun q => if dkEq q.1 k then (q.1, v) else q else kvs ++ [(k, v)]
/-- the turns of a range -/
def rng (lo : Int) (c : Int) : Nat → List P
  | 0 => []
  | n + 1 => .int lo :: rng (lo + c) c n
def Sm62 (i : Int) : Prop := -4611686018427387904 ≤ i ∧ i < 4611686018427387904
instance (i : Int) : Decidable (Sm62 i) := Classical.propDecidable _
def rgP : List P → Option (List P)
  | [.int n] => if Sm62 n then some (rng 0 1 n.toNat) else none
  | [.int a, .int b] => if Sm62 a ∧ Sm62 b then some (rng a 1 (b - a).toNat) else none
  | [.int a, .int b, .int c] => if -1000000 < a ∧ a < 1000000 ∧ -1000000 < b ∧ b < 1000000 ∧ 0 < c ∧ c < 1000000 then some (rng a c (if a < b then (b - a - 1) / c + 1 else 0).toNat) else none
  | _ => none
/-! ### trees -/
/-- methods -/
inductive Me where
  | rem | idx | cnt | pop | ext | sd | gt
  deriving DecidableEq
def meN : Me → Str
  | .rem => "remove"
  | .idx => "index"
  | .cnt => "count"
  | .pop => "pop"
  | .ext => "extend"
  | .sd => "setdefault"
  | .gt => "get"
inductive T where
  | c (x : Const) (k : Nat) (p : Pos)
  | v (i : Nat) (x : Str) (p : Pos)
  | g (i : Nat) (x : Str) (p : Pos)
  | tup (a : T) (k : Nat) (p : Pos)
  | lst (m : Bool) (a : T) (p : Pos)
  | ix (a b : T) (p : Pos)
  | sl (a lo hi : T) (p p2 : Pos)
  | rv (a : T) (k : Nat) (p p1 p2 p3 : Pos)
  | bin (a : T) (o : Operator) (b : T) (p : Pos)
  | neg (a : T) (p : Pos)
  | nt (a : T) (p : Pos)
  | cmp (a : T) (o : CmpOp) (b : T) (p : Pos)
  | cm2 (a : T) (o : CmpOp) (b : T) (q : CmpOp) (c : T) (p : Pos)
  | bo (o : BoolOp) (a : T) (p : Pos)
  | ite (c a b : T) (p : Pos)
  | bi (f : Bi) (x : Str) (a : T) (p0 p : Pos)
  | isi (a : T) (ty : Str) (p0 p1 p : Pos)
  | cal (f : Nat) (m : Bool) (x : Str) (a : T) (p0 p : Pos)
  | lrg (x : Str) (a : T) (p0 p1 p2 p : Pos)
  | lzp (a : T) (p0 p1 p2 p : Pos)
  | lsm (a : T) (p0 p : Pos)
  | rpm (a b : T) (p : Pos)
  | cp (m : Bool) (elt tg it cond : T) (sc : Scope) (own : List (Str × Nat)) (p : Pos)
  | app (o e : T) (p0 p : Pos)
  | met (f : Me) (o a : T) (p0 p : Pos)
  | sb (b : Bool) (a : T) (p0 p1 p2 p : Pos)
  | dct0 (p : Pos)
  | dct1 (a b : T) (p : Pos)
  | dcp (kx vx tg it cond : T) (sc : Scope) (own : List (Str × Nat)) (p : Pos)
  | dix (a b : T) (p : Pos)
  | din (n : Bool) (a b : T) (p : Pos)
  | dme (f : Me) (o a : T) (p0 p : Pos)
  -- what is walked
  | pl (e : T)
  | rg (a : T) (p0 p : Pos)
  | en (a : T) (p0 p : Pos)
  | zp (a : T) (p0 p : Pos)
  | ez (a : T) (p0 p1 p2 p : Pos)
  | itm (o : T) (p0 p : Pos)
  | dwk (o : T)
  -- lists
  | nil
  | cons (a b : T)
  | star (a b : T) (p : Pos)
  -- statements
  | as (t e : T) (p : Pos)
  | pa (ts es : T) (k1 k2 : Nat) (p1 p2 p : Pos)
  | ag (t : T) (o : Operator) (e : T) (p : Pos)
  | agI (a b : T) (o : Operator) (e : T) (q p : Pos)
  | iff (c a b : T) (p : Pos)
  | dst (a b e : T) (q p : Pos)
  | das (i : Nat) (x : Str) (px : Pos) (d : T) (p : Pos)
  | dag (a b : T) (o : Operator) (e : T) (q p : Pos)
  | wh (c b : T) (p : Pos)
  | fo (t it b : T) (p : Pos)
  | re (e : T) (p : Pos)
  | exs (e : T) (p : Pos)
  | bk (p : Pos)
  | ct (p : Pos)
  | ps (p : Pos)
  | ra (p : Pos) (e : Expr)
  -- what is not reached
  | xs (q : Stmt)
  deriving Inhabited
mutual
/-- the expression -/
def toE : T → Expr
  | .c x k p => .Constant x k p
  | .v _ x p => .Name x p
  | .g _ x p => .Name x p
  | .tup a k p => .Tuple (toEs a) k p
  | .lst _ a p => .List (toEs a) p
  | .ix a b p => .Subscript (toE a) (toE b) p
  | .sl a lo hi p p2 => .Subscript (toE a) (.Slice (toO lo) (toO hi) none p2) p
  | .rv a k p p1 p2 p3 => .Subscript (toE a) (.Slice none none (some (.UnaryOp .USub (.Constant (.int 1) k p1) p2)) p3) p
  | .bin a o b p => .BinOp (toE a) o (toE b) p
  | .neg a p => .UnaryOp .USub (toE a) p
  | .nt a p => .UnaryOp .Not (toE a) p
  | .cmp a o b p => .Compare (toE a) [o] [toE b] p
  | .cm2 a o b q c p => .Compare (toE a) [o, q] [toE b, toE c] p
  | .bo o a p => .BoolOp o (toEs a) p
  | .ite c a b p => .IfExp (toE c) (toE a) (toE b) p
  | .bi _ x a p0 p => .Call (.Name x p0) (toEs a) [] p
  | .isi a ty p0 p1 p => .Call (.Name "isinstance" p0) [toE a, .Name ty p1] [] p
  | .cal _ _ x a p0 p => .Call (.Name x p0) (toEs a) [] p
  | .lrg x a p0 p1 p2 p => .Call (.Name x p0) [.Call (.Name "range" p1) (toEs a) [] p2] [] p
  | .lzp a p0 p1 p2 p => .Call (.Name "list" p0) [.Call (.Name "zip" p1) (toEs a) [] p2] [] p
  | .lsm a p0 p => .Call (.Name "list" p0) (toEs a) [] p
  | .rpm a b p => .BinOp (toE a) .Mult (toE b) p
  | .cp _ elt tg it cond sc _ p => .ListComp (toE elt) [⟨toE tg, toE it, toEs cond, 0⟩] sc p
  | .app o e p0 p => .Call (.Attribute (toE o) "append" p0) [toE e] [] p
  | .met f o a p0 p => .Call (.Attribute (toE o) (meN f) p0) (toEs a) [] p
  | .sb b a p0 p1 p2 p => .Call (.Name (if b then "sorted" else "len") p0) [.Call (.Name "set" p1) [toE a] [] p2] [] p
  | .dct0 p => .Dict [] [] p
  | .dct1 a b p => .Dict [some (toE a)] [toE b] p
  | .dcp kx vx tg it cond sc _ p => .DictComp (toE kx) (toE vx) [⟨toE tg, toE it, toEs cond, 0⟩] sc p
  | .dix a b p => .Subscript (toE a) (toE b) p
  | .din n a b p => .Compare (toE a) [if n then .NotIn else .In] [toE b] p
  | .dme f o a p0 p => .Call (.Attribute (toE o) (meN f) p0) (toEs a) [] p
  | .itm o p0 p => .Call (.Attribute (toE o) "items" p0) [] [] p
  | .dwk o => toE o
  | .pl e => toE e
  | .rg a p0 p => .Call (.Name "range" p0) (toEs a) [] p
  | .en a p0 p => .Call (.Name "enumerate" p0) (toEs a) [] p
  | .zp a p0 p => .Call (.Name "zip" p0) (toEs a) [] p
  | .ez a p0 p1 p2 p => .Call (.Name "enumerate" p0) [.Call (.Name "zip" p1) (toEs a) [] p2] [] p
  | _ => .Constant .none 0 ⟨0, 0, 0, 0⟩
def toO : T → Option Expr
  | .nil => none
  | .pl e => some (toE e)
  | _ => none
def toEs : T → List Expr
  | .nil => []
  | .cons a b => toE a :: toEs b
  | .star a b p => .Starred (toE a) p :: toEs b
  | _ => []
end
mutual
def toS : T → Stmt
  | .as t e p => .Assign [toE t] (toE e) p
  | .pa ts es k1 k2 p1 p2 p => .Assign [.Tuple (toEs ts) k1 p1] (.Tuple (toEs es) k2 p2) p
  | .ag t o e p => .AugAssign (toE t) o (toE e) p
  | .agI a b o e q p => .AugAssign (.Subscript (toE a) (toE b) q) o (toE e) p
  | .das _ x px d p => .Assign [.Name x px] (toE d) p
  | .dst a b e q p => .Assign [.Subscript (toE a) (toE b) q] (toE e) p
  | .dag a b o e q p => .AugAssign (.Subscript (toE a) (toE b) q) o (toE e) p
  | .iff c a b p => .If (toE c) (toSs a) (toSs b) p
  | .wh c b p => .While (toE c) (toSs b) [] p
  | .fo t it b p => .For (toE t) (toE it) (toSs b) [] p
  | .re e p => .Return (some (toE e)) p
  | .exs e p => .Expr (toE e) p
  | .bk p => .Break p
  | .ct p => .Continue p
  | .ps p => .Pass p
  | .ra p e => .Raise (some e) none p
  | .xs q => q
  | _ => .Pass ⟨0, 0, 0, 0⟩
def toSs : T → List Stmt
  | .nil => []
  | .cons a b => toS a :: toSs b
  | _ => []
end
/-! ### the evaluator -/
/-- what a tree means as an expression, an argument list, a thing walked, a statement (a block), a target (targets), and | or's rest -/
structure Sm where
  e : En → Sr → R Vl
  a : En → Sr → R (List Vl)
  i : En → Sr → R (List Vl ⊕ Nat)
  s : En → Sr → X
  k : Vl → En → Sr → X
  ks : List Vl → En → Sr → X
  bo : Bool → En → Sr → R Vl
  z : Bool
def Sm.n : Sm := ⟨fun _ _ => .no, fun _ _ => .no, fun _ _ => .no, fun _ _ => .no, fun _ _ _ => .no, fun _ _ _ => .no, fun _ _ _ => .no, false⟩
def ofC : Const → Option P
  | .none => some .none
  | .bool b => some (.bool b)
  | .int i => some (.int i)
  | .str s => some (.str s)
  | _ => none
def truV (v : Vl) (s : Sr) : Option Bool := (dd v s).bind tru
/-- a test -/
def tst (m : R Vl) : R Bool := m.bd fun v s => R.of (truV v s) s
def op2 (f : P → P → Option P) (m : R Vl) (g : Sr → R Vl) : R Vl := m.bd fun x s => (g s).bd fun y s => match dd x s, dd y s with
  | some a, some b => match f a b with
    | some c => .ok (.p c) s
    | none => .no
  | _, _ => .no
def blP (o : Option Bool) : Option P := o.map .bool
def op1 (f : P → Option P) (m : R Vl) : R Vl := m.bd fun x s => match dd x s with
  | some a => match f a with
    | some c => .ok (.p c) s
    | none => .no
  | none => .no
def opL (f : List P → Option P) (m : R (List Vl)) : R Vl := m.bd fun xs s => match ddL xs s with
  | some as => match f as with
    | some c => .ok (.p c) s
    | none => .no
  | none => .no
def negP : P → Option P
  | .int i => some (.int (-i))
  | _ => none
/-- a name of a class -/
inductive Tg where
  | n | b | i | s | l | t | d
def tgOf : P → Tg
  | .none => .n
  | .bool _ => .b
  | .int _ => .i
  | .str _ => .s
  | .list _ => .l
  | .tuple _ => .t
  | .dict _ => .d
def tyG (g : Tg) (ty : Str) : Option Bool := match g with
  | .n => if ty = "int" ∨ ty = "bool" ∨ ty = "str" ∨ ty = "tuple" ∨ ty = "list" ∨ ty = "dict" then some false else none
  | .b => if ty = "int" ∨ ty = "bool" then some true else if ty = "str" ∨ ty = "tuple" ∨ ty = "list" ∨ ty = "dict" then some false else none
  | .i => if ty = "int" then some true else if ty = "bool" ∨ ty = "str" ∨ ty = "tuple" ∨ ty = "list" ∨ ty = "dict" then some false else none
  | .s => if ty = "str" then some true else if ty = "int" ∨ ty = "bool" ∨ ty = "tuple" ∨ ty = "list" ∨ ty = "dict" then some false else none
  | .t => if ty = "tuple" then some true else if ty = "int" ∨ ty = "bool" ∨ ty = "str" ∨ ty = "list" ∨ ty = "dict" then some false else none
  | .l => if ty = "list" then some true else if ty = "int" ∨ ty = "bool" ∨ ty = "str" ∨ ty = "tuple" ∨ ty = "dict" then some false else none
  | .d => if ty = "dict" then some true else if ty = "int" ∨ ty = "bool" ∨ ty = "str" ∨ ty = "tuple" ∨ ty = "list" then some false else none
def tyP (ty : Str) (x : P) : Option Bool := tyG (tgOf x) ty
/-- calls: the args' refs, the callee's own store, what is handed back -/
def refs : List Vl → List Nat
  | [] => []
  | .p _ :: r => refs r
  | .r n :: r => n :: (refs r).filter (· != n)
def inArgs (rs : List Nat) : List Vl → List Vl
  | [] => []
  | .p x :: r => .p x :: inArgs rs r
  | .r n :: r => .r (rs.idxOf n) :: inArgs rs r
def plainOb : Ob → Bool
  | .lp z _ => z == 0
  | .dp z _ => z == 0
  | _ => false
def back : List Nat → List Ob → Sr → Sr
  | [], _, s => s
  | _ :: _, [], s => s
  | n :: r, o :: os, s => back r os (s.set n o)
def callW (F : List Vl → Sr → R Vl) (m : Bool) (args : List Vl) (s : Sr) : R Vl :=
  let rs := refs args
  let loc := rs.map fun n => s.getD n .no
  if loc.all plainOb then
    match F (inArgs rs args) loc with
    | .ok (.p x) l => .ok (.p x) (back rs l s)
    | .ok (.r j) l => match l[j]? with
      | some (.lp z xs) =>
        if j < rs.length then .ok (.r (rs.getD j 0)) (back rs l s)
        else if m then (if z = 0 then .ok (.r s.length) (back rs l s ++ [.lp 0 xs]) else .no) else .ok (.p (.list xs)) (back rs l s)
      | some (.dp z xs) =>
        if j < rs.length then .ok (.r (rs.getD j 0)) (back rs l s)
        else if z = 0 then .ok (.r s.length) (back rs l s ++ [.dp 0 xs]) else .no
      | _ => .no
    | .ex c x l => .ex c x (back rs l s)
    | .no => .no
  else .no
/-- for over a list of values -/
def forL (tg : Vl → En → Sr → X) (body : En → Sr → X) : List Vl → En → Sr → X
  | [], e, s => .nx e s
  | v :: r, e, s => match tg v e s with
    | .nx e s => match body e s with
      | .nx e s => forL tg body r e s
      | .ct e s => forL tg body r e s
      | .bk e s => .nx e s
      | x => x
    | _ => .no
/-- for over a list of the store, read anew at each turn -/
def forR (tg : Vl → En → Sr → X) (body : En → Sr → X) (n : Nat) : Nat → Nat → En → Sr → X
  | 0, _, _, _ => .no
  | k + 1, i, e, s =>
    let go : Vl → X := fun v => match tg v e s with
      | .nx e s => match body e s with
        | .nx e s => forR tg body n k (i + 1) e s
        | .ct e s => forR tg body n k (i + 1) e s
        | .bk e s => .nx e s
        | x => x
      | _ => .no
    match s[n]? with
    | some (.lp _ xs) => match xs[i]? with
      | some x => go (.p x)
      | none => .nx e s
    | some (.lr xs) => match xs[i]? with
      | some m => go (.r m)
      | none => .nx e s
    | _ => .no
/-- a comprehension over a list of values -/
def cpL (tg : Vl → En → Sr → X) (cond : En → Sr → R Bool) (elt : En → Sr → R Vl) (e : En) : List Vl → Sr → R (List P)
  | [], s => .ok [] s
  | v :: r, s => match tg v e s with
    | .nx e' s => match cond e' s with
      | .ok true s => match elt e' s with
        | .ok w s => match toP w s with
          | some (x, s) => match cpL tg cond elt e r s with
            | .ok xs s => .ok (x :: xs) s
            | _ => .no
          | none => .no
        | _ => .no
      | .ok false s => cpL tg cond elt e r s
      | _ => .no
    | _ => .no
def cpR (tg : Vl → En → Sr → X) (cond : En → Sr → R Bool) (elt : En → Sr → R Vl) (n : Nat) (e : En) : Nat → Nat → Sr → R (List P)
  | 0, _, _ => .no
  | k + 1, i, s =>
    let go : Vl → R (List P) := fun v => match tg v e s with
      | .nx e' s => match cond e' s with
        | .ok true s => match elt e' s with
          | .ok w s => match toP w s with
            | some (x, s) => match cpR tg cond elt n e k (i + 1) s with
              | .ok xs s => .ok (x :: xs) s
              | _ => .no
            | none => .no
          | _ => .no
        | .ok false s => cpR tg cond elt n e k (i + 1) s
        | _ => .no
      | _ => .no
    match s[n]? with
    | some (.lp _ xs) => match xs[i]? with
      | some x => go (.p x)
      | none => .ok [] s
    | some (.lr xs) => match xs[i]? with
      | some m => go (.r m)
      | none => .ok [] s
    | _ => .no
/-- while: n turns at most -/
def whN (c : En → Sr → R Bool) (b : En → Sr → X) : Nat → En → Sr → X
  | 0, _, _ => .no
  | n + 1, e, s => match c e s with
    | .ok true s => match b e s with
      | .nx e s => whN c b n e s
      | .ct e s => whN c b n e s
      | .bk e s => .nx e s
      | x => x
    | .ok false s => .nx e s
    | .ex c x s => .ex c x s
    | .no => .no
open Classical in
def whC (c : En → Sr → R Bool) (b : En → Sr → X) (e : En) (s : Sr) : X :=
  if h : ∃ n, whN c b n e s ≠ .no then whN c b h.choose e s else .no
/-- values out of one that is unpacked -/
def outOf : Vl → Sr → Option (List Vl)
  | .p (.tuple xs), _ => some (xs.map .p)
  | _, _ => none
/-- o[i] = v -/
def setIx (o i v : Vl) (s : Sr) : Option Sr := match o with
  | .r n => match s[n]?, i with
    | some (.lp 0 xs), .p (.int k) => match L2.ixN xs.length k, toP v s with
      | some j, some (x, s) => match s[n]? with
        | some (.lp 0 xs) => some (s.set n (.lp 0 (xs.set j x)))
        | _ => none
      | _, _ => none
    | _, _ => none
  | _ => none
def appV (o v : Vl) (s : Sr) : Option Sr := match o with
  | .r n => match s[n]?, v with
    | some (.lr xs), .r m => if xs.length < lim then some (s.set n (.lr (xs ++ [m]))) else none
    | some (.lp 0 _), v => match toP v s with
      | some (x, s) => match s[n]? with
        | some (.lp 0 xs) => if xs.length < lim then some (s.set n (.lp 0 (xs ++ [x]))) else none
        | _ => none
      | none => none
    | _, _ => none
  | _ => none
def augP : Operator → P → P → Option P
  | .Add, .int i, .int j => some (.int (i + j))
  | .Sub, .int i, .int j => some (.int (i - j))
  | .Mult, .int i, .int j => if MulOk i j then some (.int (i * j)) else none
  | _, _, _ => none
def bigN : Nat := 1000000
@[simp] def isDp (s : Sr) (n : Nat) : Bool := match s[n]? with
  | some (.dp _ _) => true
  | _ => false
@[simp] def isL : Vl → Sr → Bool
  | .r n, s => !isDp s n
  | _, _ => false
def itOf (v : Vl) (s : Sr) : R (List Vl ⊕ Nat) := match v with
  | .p (.list xs) => .ok (.inl (xs.map .p)) s
  | .p (.tuple xs) => .ok (.inl (xs.map .p)) s
  | .r n => if isDp s n = true then .no else .ok (.inr n) s
  | _ => .no
/-- what a list or a tuple holds -/
def seqP : P → Option (List P)
  | .list xs => some xs
  | .tuple xs => some xs
  | _ => none
def enumP : Nat → List P → List Vl
  | _, [] => []
  | k, x :: r => .p (.tuple [.int (k : Nat), x]) :: enumP (k + 1) r
def zipP : List P → List P → List Vl
  | x :: r, y :: q => .p (.tuple [x, y]) :: zipP r q
  | _, _ => []
def orP (m : R Vl) (f : Sr → R Vl) (b : Bool) : R Vl := m.bd fun v s => match truV v s with
  | some c => if c = b then .ok v s else f s
  | none => .no
/-- several targets, one behind the other -/
def X.th (x : X) (f : En → Sr → X) : X := match x with
  | .nx e s => f e s
  | x => x
def oneInt : R Vl → R (Option Int) := fun m => m.bd fun v s => match v with
  | .p (.int i) => .ok (some i) s
  | _ => .no
/-! ### what each tree does, by what its parts do -/
def eC (x : Const) : En → Sr → R Vl := fun _ s => R.of ((ofC x).map .p) s
def eV (i : Nat) : En → Sr → R Vl := fun e s =>
  match e[i]? with
  | some (some v) => .ok v s
  | _ => .no
def kV (i : Nat) : Vl → En → Sr → X := fun v e s => .nx (e.set i (some v)) s
def eG (gl : List P) (i : Nat) : En → Sr → R Vl := fun _ s => R.of (gl[i]?.map .p) s
def mkTup (vs : List Vl) (s : Sr) : R Vl :=
  match toPL vs s with
  | some (xs, s) => if xs.length ≤ lim then .ok (.p (.tuple xs)) s else .no
  | none => .no
def eTup (a : Sm) : En → Sr → R Vl := fun e s => (a.a e s).bd mkTup
/-- how many stand in a list of trees -/
def cnt : T → Nat
  | .cons _ b => cnt b + 1
  | _ => 0
def kTup (n : Nat) (a : Sm) : Vl → En → Sr → X := fun v e s =>
  match outOf v s with
  | some vs => if vs.length = n then a.ks vs e s else .no
  | none => .no
def mkLst (m : Bool) (xs : List P) (s : Sr) : R Vl := if m then .ok (.r s.length) (s ++ [.lp 0 xs]) else .ok (.p (.list xs)) s
def mkLstV (m : Bool) (vs : List Vl) (s : Sr) : R Vl :=
  match toPL vs s with
  | some (xs, s) => if xs.length ≤ lim then mkLst m xs s else .no
  | none => .no
def eLst (m : Bool) (a : Sm) : En → Sr → R Vl := fun e s => (a.a e s).bd (mkLstV m)
def ixV (o i : Vl) (s : Sr) : R Vl :=
  match dd i s with
  | some (.int k) =>
    match o with
    | .p x => R.of ((ixP x (.int k)).map .p) s
    | .r n =>
      match s[n]? with
      | some (.lp _ xs) => R.of ((L2.atI xs k).map .p) s
      | some (.lr xs) => R.of ((L2.atI xs k).map .r) s
      | _ => .no
  | _ => .no
def eIx (a b : Sm) : En → Sr → R Vl := fun e s => (a.e e s).bd fun o s => (b.e e s).bd fun i s => ixV o i s
def kIx (a b : Sm) : Vl → En → Sr → X := fun v e s => (a.e e s).bx fun o s => (b.e e s).bx fun i s =>
  match setIx o i v s with
  | some s => .nx e s
  | none => .no
def eOpt (a : Sm) : En → Sr → R (Option Int) := fun e s => if a.z then .ok none s else oneInt (a.e e s)
def eSl (a lo hi : Sm) : En → Sr → R Vl := fun e s => (a.e e s).bd fun o s => (eOpt lo e s).bd fun l s => (eOpt hi e s).bd fun h s => R.of (((dd o s).bind fun x => slP x l h).map .p) s
def rvP : P → Option P
  | .list xs => some (.list xs.reverse)
  | .tuple xs => some (.tuple xs.reverse)
  | _ => none
def eRv (a : Sm) : En → Sr → R Vl := fun e s => op1 rvP (a.e e s)
def eBin (o : Operator) (a b : Sm) : En → Sr → R Vl := fun e s => op2 (binP o) (a.e e s) fun s => b.e e s
def eNeg (a : Sm) : En → Sr → R Vl := fun e s => op1 negP (a.e e s)
def eNt (a : Sm) : En → Sr → R Vl := fun e s => (tst (a.e e s)).bd fun b s => .ok (.p (.bool !b)) s
def eCmp (o : CmpOp) (a b : Sm) : En → Sr → R Vl := fun e s => op2 (fun x y => blP (cmpP o x y)) (a.e e s) fun s => b.e e s
def lnk (o : CmpOp) (x y : Vl) (s : Sr) : Option Bool :=
  match dd x s, dd y s with
  | some x, some y => cmpP o x y
  | _, _ => none
def eCm2 (o q : CmpOp) (a b c : Sm) : En → Sr → R Vl := fun e s => (a.e e s).bd fun x s => (b.e e s).bd fun y s =>
  match lnk o x y s with
  | some true => (c.e e s).bd fun w s => R.of ((blP (lnk q y w s)).map .p) s
  | some false => .ok (.p (.bool false)) s
  | none => .no
def eIte (c a b : Sm) : En → Sr → R Vl := fun e s => (tst (c.e e s)).bd fun k s => if k then a.e e s else b.e e s
def eBi (f : Bi) (a : Sm) : En → Sr → R Vl := fun e s => opL (biP f) (a.a e s)
def eIsi (ty : Str) (a : Sm) : En → Sr → R Vl := fun e s => op1 (fun x => blP (tyP ty x)) (a.e e s)
def eCal (F : List Vl → Sr → R Vl) (m : Bool) (a : Sm) : En → Sr → R Vl := fun e s => (a.a e s).bd fun vs s => callW F m vs s
/-- list(a), [..] * n, to be changed -/
def lsmV (vs : List Vl) (s : Sr) : R Vl := match ddL vs s with
  | some [.list xs] => mkLst true xs s
  | some [.tuple xs] => mkLst true xs s
  | _ => .no
def eLsm (a : Sm) : En → Sr → R Vl := fun e s => (a.a e s).bd lsmV
def rpmV (v w : Vl) (s : Sr) : R Vl := match dd v s, dd w s with
  | some (.list xs), some (.int k) => if 0 ≤ k ∧ k ≤ lim ∧ xs.length * k.toNat ≤ lim then mkLst true (rep xs k.toNat) s else .no
  | _, _ => .no
def eRpm (a b : Sm) : En → Sr → R Vl := fun e s => (a.e e s).bd fun v s => (b.e e s).bd fun w s => rpmV v w s
def lrgP (xs : List P) : Option P := if xs.length = 3 then none else (rgP xs).bind fun ys => if ys.length ≤ lim then some (.list ys) else none
/-- what a zip of two tuples gives, as a list -/
def zpP : List P → List P → List P
  | x :: xs, y :: ys => .tuple [x, y] :: zpP xs ys
  | _, _ => []
def lzpP : List P → Option P
  | [.tuple xs, .tuple ys] => if xs.length < 1000000 then some (.list (zpP xs ys)) else none
  | _ => none
def eLzp (a : Sm) : En → Sr → R Vl := fun e s => opL lzpP (a.a e s)
def eLrg (a : Sm) : En → Sr → R Vl := fun e s => opL lrgP (a.a e s)
def cnd (c : Sm) : En → Sr → R Bool := fun e s => if c.z then .ok true s else tst (c.e e s)
def cpAll (tg cond elt : Sm) (e : En) (w : List Vl ⊕ Nat) (s : Sr) : R (List P) :=
  match w with
  | .inl vs => if vs.length ≤ lim then cpL tg.k (cnd cond) elt.e e vs s else .no
  | .inr n => cpR tg.k (cnd cond) elt.e n e bigN 0 s
/-- a block's own names stand empty at its turns -/
def wipeE (e : En) : List Nat → En
  | [] => e
  | v :: vs => (wipeE e vs).set v none
def eCp (m : Bool) (elt tg it cond : Sm) (own : List Nat) : En → Sr → R Vl := fun e s => (it.i e s).bd fun w s => (cpAll tg cond elt (wipeE e own) w s).bd fun xs s => mkLst m xs s
def isR : Vl → Bool
  | .r _ => true
  | _ => false
def eApp (o x : Sm) : En → Sr → R Vl := fun e s => (o.e e s).bd fun o s => if isL o s = true then (x.e e s).bd fun v s => R.of ((appV o v s).map fun _ => Vl.p .none) ((appV o v s).getD s) else .no
/-- the distinct ones -/
def dst : List Int → List Int
  | [] => []
  | x :: r => if x ∈ r then dst r else x :: dst r
def insI (x : Int) : List Int → List Int
  | [] => [x]
  | y :: r => if x < y then x :: y :: r else if x = y then y :: r else y :: insI x r
/-- the distinct ones, ascending -/
def srt : List Int → List Int
  | [] => []
  | x :: r => insI x (srt r)
def sbP (b : Bool) (x : P) : Option P :=
  match (seqP x).bind ints? with
  | some ns => if ns.length < 60 then some (if b then .list ((srt ns).map .int) else .int (dst ns).length) else none
  | none => none
def eSb (b : Bool) (a : Sm) : En → Sr → R Vl := fun e s => op1 (sbP b) (a.e e s)
def remV (v : Vl) (vs : List Vl) (s : Sr) : Option Sr :=
  match v, ddL vs s with
  | .r n, some [.int k] =>
    match s[n]? with
    | some (.lp 0 xs) =>
      match ints? xs with
      | some ns => if k ∈ ns then some (s.set n (.lp 0 ((ns.erase k).map .int))) else none
      | none => none
    | _ => none
  | _, _ => none
def popV (v : Vl) (vs : List Vl) (s : Sr) : Option (P × Sr) :=
  match v, ddL vs s with
  | .r n, some [.int i] =>
    match s[n]? with
    | some (.lp 0 xs) =>
      match L2.ixN xs.length i with
      | some k => if xs.length ≤ lim then (xs[k]?).map fun y => (y, s.set n (.lp 0 (xs.eraseIdx k))) else none
      | none => none
    | _ => none
  | _, _ => none
def extV (v : Vl) (vs : List Vl) (s : Sr) : Option Sr :=
  match v, ddL vs s with
  | .r n, some [.list ys] =>
    match s[n]? with
    | some (.lp 0 xs) => if xs.length + ys.length ≤ lim then some (s.set n (.lp 0 (xs ++ ys))) else none
    | _ => none
  | _, _ => none
def meV : Me → Vl → List Vl → Sr → R Vl
  | .pop, v, vs, s =>
    match popV v vs s with
    | some (y, s) => .ok (.p y) s
    | none => .no
  | .ext, v, vs, s =>
    match extV v vs s with
    | some s => .ok (.p .none) s
    | none => .no
  | .rem, v, vs, s =>
    match remV v vs s with
    | some s => .ok (.p .none) s
    | none => .no
  | _, _, _, _ => .no
def agV (o : Operator) (v w : Vl) (s : Sr) : Option P :=
  match v, dd w s with
  | .p a, some b => augP o a b
  | _, _ => none
/-! dicts: what is done with them -/
def dat (o : Vl) (s : Sr) : Option (List (P × P)) := match o with
  | .r n => match s[n]? with
    | some (.dp _ kvs) => some kvs
    | _ => none
  | _ => none
def dat0 (o : Vl) (s : Sr) : Bool := match o with
  | .r n => match s[n]? with
    | some (.dp 0 _) => true
    | _ => false
  | _ => false
def key? (v : Vl) : Option P := match v with
  | .p k => if isKey k = true then some k else none
  | _ => none
def dixV (o i : Vl) (s : Sr) : Option P := match dat o s, key? i with
  | some kvs, some k => dget kvs k
  | _, _ => none
def eDix (a b : Sm) : En → Sr → R Vl := fun e s => (a.e e s).bd fun o s => (b.e e s).bd fun i s => R.of ((dixV o i s).map .p) s
def dinV (n : Bool) (x o : Vl) (s : Sr) : Option Bool := match dat o s, key? x with
  | some kvs, some k => some ((dget kvs k).isSome != n)
  | _, _ => none
def eDin (n : Bool) (a b : Sm) : En → Sr → R Vl := fun e s => (a.e e s).bd fun x s => (b.e e s).bd fun o s => R.of ((dinV n x o s).map fun b => .p (.bool b)) s
def dputV (o i v : Vl) (s : Sr) : Option Sr := match o, key? i, v with
  | .r n, some k, .p x => match s[n]? with
    | some (.dp 0 kvs) => if kvs.length < lim then some (s.set n (.dp 0 (dput kvs k x))) else none
    | _ => none
  | _, _, _ => none
def sDst (a b x : Sm) : En → Sr → X := fun e s => (x.e e s).bx fun v s => (a.e e s).bx fun o s => (b.e e s).bx fun i s => match dputV o i v s with
  | some s => .nx e s
  | none => .no
def sDag (o : Operator) (a b x : Sm) : En → Sr → X := fun e s => (a.e e s).bx fun l s => (b.e e s).bx fun i s => match dixV l i s with
  | some v => (x.e e s).bx fun w s => match agV o (.p v) w s with
    | some c => match dputV l i (.p c) s with
      | some s => .nx e s
      | none => .no
    | none => .no
  | none => .no
def sdV (o k v : Vl) (s : Sr) : R Vl := match v with
  | .p v => match dputV o k (.p v) s with
    | some s' => match dixV o k s with
      | some x => .ok (.p x) s
      | none => .ok (.p v) s'
    | none => .no
  | _ => .no
def gtV (o k d : Vl) (s : Sr) : R Vl := match dat o s, key? k with
  | some kvs, some k => match dget kvs k with
    | some x => .ok (.p x) s
    | none => .ok d s
  | _, _ => .no
def dmeV (f : Me) (o : Vl) (vs : List Vl) (s : Sr) : R Vl := match f with
  | .sd => match vs with
    | [k, v] => sdV o k v s
    | _ => .no
  | .gt => match vs with
    | [k] => gtV o k (.p .none) s
    | [k, d] => gtV o k d s
    | _ => .no
  | _ => .no
def eDme (f : Me) (o a : Sm) : En → Sr → R Vl := fun e s => (o.e e s).bd fun o s => if dat0 o s = true then (a.a e s).bd fun vs s => dmeV f o vs s else .no
def eD0 : En → Sr → R Vl := fun _ s => .ok (.r s.length) (s ++ [.dp 0 []])
def mkD1 (x y : Vl) (s : Sr) : R Vl := match key? x, y with
  | some k, .p v => .ok (.r s.length) (s ++ [.dp 0 [(k, v)]])
  | _, _ => .no
def eD1 (a b : Sm) : En → Sr → R Vl := fun e s => match a.e e s with
  | .ok x s => match b.e e s with
    | .ok y s => mkD1 x y s
    | _ => .no
  | _ => .no
def dcL (tg : Vl → En → Sr → X) (cond : En → Sr → R Bool) (kx vx : En → Sr → R Vl) (e : En) : List Vl → List (P × P) → Sr → R (List (P × P))
  | [], acc, s => .ok acc s
  | v :: r, acc, s => match tg v e s with
    | .nx e' s => match cond e' s with
      | .ok true s => match kx e' s with
        | .ok k s => match vx e' s with
          | .ok (.p x) s => match key? k with
            | some k => if acc.length < lim then dcL tg cond kx vx e r (dput acc k x) s else .no
            | none => .no
          | _ => .no
        | _ => .no
      | .ok false s => dcL tg cond kx vx e r acc s
      | _ => .no
    | _ => .no
def dcAll (tg cond kx vx : Sm) (e : En) (w : List Vl ⊕ Nat) (s : Sr) : R (List (P × P)) := match w with
  | .inl vs => dcL tg.k (cnd cond) kx.e vx.e e vs [] s
  | .inr _ => .no
def eDc (kx vx tg it cond : Sm) (own : List Nat) : En → Sr → R Vl := fun e s => (it.i e s).bd fun w s => (dcAll tg cond kx vx (wipeE e own) w s).bd fun kvs s => .ok (.r s.length) (s ++ [.dp 0 kvs])
/-- a dict that is walked stays as it is from then on -/
def wkL (b : Bool) (kvs : List (P × P)) : List Vl := kvs.map fun q => .p (if b then .tuple [q.1, q.2] else q.1)
def wkV (b : Bool) (v : Vl) (s : Sr) : R (List Vl ⊕ Nat) := match v with
  | .r n => match s[n]? with
    | some (.dp 0 kvs) => .ok (.inl (wkL b kvs)) (s.set n (.dp 1 kvs))
    | some (.dp (_ + 1) kvs) => .ok (.inl (wkL b kvs)) s
    | _ => .no
  | _ => .no
def iWk (b : Bool) (x : Sm) : En → Sr → R (List Vl ⊕ Nat) := fun e s => (x.e e s).bd fun v s => wkV b v s
def eMet (f : Me) (o a : Sm) : En → Sr → R Vl := fun e s => (o.e e s).bd fun o s => if isL o s = true then (a.a e s).bd fun vs s => meV f o vs s else .no
def iPl (x : Sm) : En → Sr → R (List Vl ⊕ Nat) := fun e s => (x.e e s).bd fun v s => itOf v s
def iRg (a : Sm) : En → Sr → R (List Vl ⊕ Nat) := fun e s => (a.a e s).bd fun vs s => R.of (((ddL vs s).bind rgP).map fun xs => .inl (xs.map .p)) s
def enV (vs : List Vl) : Option (List Vl ⊕ Nat) :=
  match vs with
  | [.p (.list xs)] => some (.inl (enumP 0 xs))
  | [.p (.tuple xs)] => some (.inl (enumP 0 xs))
  | _ => none
def ezV : List Vl → Option (List Vl ⊕ Nat)
  | [.p (.tuple xs), .p (.tuple ys)] => some (.inl (enumP 0 (zpP xs ys)))
  | _ => none
def iEz (a : Sm) : En → Sr → R (List Vl ⊕ Nat) := fun e s => (a.a e s).bd fun vs s => R.of (ezV vs) s
def iEn (a : Sm) : En → Sr → R (List Vl ⊕ Nat) := fun e s => (a.a e s).bd fun vs s => R.of (enV vs) s
def zpV (vs : List Vl) : Option (List Vl ⊕ Nat) :=
  match vs with
  | [.p (.list xs), .p (.list ys)] => some (.inl (zipP xs ys))
  | [.p (.tuple xs), .p (.tuple ys)] => some (.inl (zipP xs ys))
  | _ => none
def iZp (a : Sm) : En → Sr → R (List Vl ⊕ Nat) := fun e s => (a.a e s).bd fun vs s => R.of (zpV vs) s
def aCons (a b : Sm) : En → Sr → R (List Vl) := fun e s => (a.e e s).bd fun v s => (b.a e s).bd fun vs s => .ok (v :: vs) s
def ksCons (a b : Sm) : List Vl → En → Sr → X := fun vs e s =>
  match vs with
  | v :: r => (a.k v e s).th fun e s => b.ks r e s
  | [] => .no
def boCons (a b : Sm) : Bool → En → Sr → R Vl := fun k e s => if b.z then a.e e s else orP (a.e e s) (fun s => b.bo k e s) k
def ksNil : List Vl → En → Sr → X := fun vs e s =>
  match vs with
  | [] => .nx e s
  | _ => .no
def aStar (a b : Sm) : En → Sr → R (List Vl) := fun e s => (a.e e s).bd fun v s => match (dd v s).bind seqP with
  | some xs => (b.a e s).bd fun vs s => .ok (xs.map .p ++ vs) s
  | none => .no
def sAs (t x : Sm) : En → Sr → X := fun e s => (x.e e s).bx fun v s => t.k v e s
def sPa (ts es : Sm) : En → Sr → X := fun e s => (es.a e s).bx fun vs s => ts.ks vs e s
def sAg (o : Operator) (t x : Sm) : En → Sr → X := fun e s => (t.e e s).bx fun v s => (x.e e s).bx fun w s =>
  match agV o v w s with
  | some c => t.k (.p c) e s
  | none => .no
def sAgI (o : Operator) (a b x : Sm) : En → Sr → X := fun e s => (a.e e s).bx fun l s => (b.e e s).bx fun i s => if isR l then (ixV l i s).bx fun v s => (x.e e s).bx fun w s =>
  match agV o v w s with
  | some c => match setIx l i (.p c) s with
    | some s => .nx e s
    | none => .no
  | none => .no
  else .no
def sIf (c a b : Sm) : En → Sr → X := fun e s => (tst (c.e e s)).bx fun k s => if k then a.s e s else b.s e s
def sWh (c b : Sm) : En → Sr → X := whC (fun e s => tst (c.e e s)) b.s
def sFo (t it b : Sm) : En → Sr → X := fun e s => (it.i e s).bx fun w s =>
  match w with
  | .inl vs => forL t.k b.s vs e s
  | .inr n => forR t.k b.s n bigN 0 e s
def sRe (x : Sm) : En → Sr → X := fun e s => (x.e e s).bx fun v s => .rt v s
def sEx (x : Sm) : En → Sr → X := fun e s => (x.e e s).bx fun _ s => .nx e s
def sem (gl : List P) (F : Nat → List Vl → Sr → R Vl) : T → Sm
  | .c x _ _ => { Sm.n with e := eC x }
  | .v i _ _ => { Sm.n with e := eV i, k := kV i }
  | .g i _ _ => { Sm.n with e := eG gl i }
  | .tup a _ _ => { Sm.n with e := eTup (sem gl F a), k := kTup (cnt a) (sem gl F a) }
  | .lst m a _ => { Sm.n with e := eLst m (sem gl F a) }
  | .ix a b _ => { Sm.n with e := eIx (sem gl F a) (sem gl F b), k := kIx (sem gl F a) (sem gl F b) }
  | .sl a lo hi _ _ => { Sm.n with e := eSl (sem gl F a) (sem gl F lo) (sem gl F hi) }
  | .rv a _ _ _ _ _ => { Sm.n with e := eRv (sem gl F a) }
  | .bin a o b _ => { Sm.n with e := eBin o (sem gl F a) (sem gl F b) }
  | .neg a _ => { Sm.n with e := eNeg (sem gl F a) }
  | .nt a _ => { Sm.n with e := eNt (sem gl F a) }
  | .cmp a o b _ => { Sm.n with e := eCmp o (sem gl F a) (sem gl F b) }
  | .cm2 a o b q c _ => { Sm.n with e := eCm2 o q (sem gl F a) (sem gl F b) (sem gl F c) }
  | .bo o a _ => { Sm.n with e := (sem gl F a).bo (o == .Or) }
  | .ite c a b _ => { Sm.n with e := eIte (sem gl F c) (sem gl F a) (sem gl F b) }
  | .bi f _ a _ _ => { Sm.n with e := eBi f (sem gl F a) }
  | .isi a ty _ _ _ => { Sm.n with e := eIsi ty (sem gl F a) }
  | .cal f m _ a _ _ => { Sm.n with e := eCal (F f) m (sem gl F a) }
  | .lrg _ a _ _ _ _ => { Sm.n with e := eLrg (sem gl F a) }
  | .lzp a _ _ _ _ => { Sm.n with e := eLzp (sem gl F a) }
  | .lsm a _ _ => { Sm.n with e := eLsm (sem gl F a) }
  | .rpm a b _ => { Sm.n with e := eRpm (sem gl F a) (sem gl F b) }
  | .cp m elt tg it cond _ own _ => { Sm.n with e := eCp m (sem gl F elt) (sem gl F tg) (sem gl F it) (sem gl F cond) (own.map (·.2)) }
  | .app o x _ _ => { Sm.n with e := eApp (sem gl F o) (sem gl F x) }
  | .met f o a _ _ => { Sm.n with e := eMet f (sem gl F o) (sem gl F a) }
  | .sb b a _ _ _ _ => { Sm.n with e := eSb b (sem gl F a) }
  | .dct0 _ => { Sm.n with e := eD0 }
  | .dct1 a b _ => { Sm.n with e := eD1 (sem gl F a) (sem gl F b) }
  | .dcp kx vx tg it cond _ own _ => { Sm.n with e := eDc (sem gl F kx) (sem gl F vx) (sem gl F tg) (sem gl F it) (sem gl F cond) (own.map (·.2)) }
  | .dix a b _ => { Sm.n with e := eDix (sem gl F a) (sem gl F b) }
  | .din n a b _ => { Sm.n with e := eDin n (sem gl F a) (sem gl F b) }
  | .dme f o a _ _ => { Sm.n with e := eDme f (sem gl F o) (sem gl F a) }
  | .itm x _ _ => { Sm.n with i := iWk true (sem gl F x) }
  | .dwk x => { Sm.n with i := iWk false (sem gl F x) }
  | .das i _ _ d _ => { Sm.n with s := fun e s => ((sem gl F d).e e s).bx fun v s => kV i v e s }
  | .dst a b x _ _ => { Sm.n with s := sDst (sem gl F a) (sem gl F b) (sem gl F x) }
  | .dag a b o x _ _ => { Sm.n with s := sDag o (sem gl F a) (sem gl F b) (sem gl F x) }
  | .pl x => { Sm.n with e := (sem gl F x).e, i := iPl (sem gl F x) }
  | .rg a _ _ => { Sm.n with i := iRg (sem gl F a) }
  | .en a _ _ => { Sm.n with i := iEn (sem gl F a) }
  | .ez a _ _ _ _ => { Sm.n with i := iEz (sem gl F a) }
  | .xs _ => Sm.n
  | .zp a _ _ => { Sm.n with i := iZp (sem gl F a) }
  | .nil => { Sm.n with a := fun _ s => .ok [] s, s := fun e s => .nx e s, ks := ksNil, z := true }
  | .cons a b => { Sm.n with e := (sem gl F a).e, a := aCons (sem gl F a) (sem gl F b), s := fun e s => ((sem gl F a).s e s).th (sem gl F b).s, ks := ksCons (sem gl F a) (sem gl F b), bo := boCons (sem gl F a) (sem gl F b) }
  | .star a b _ => { Sm.n with a := aStar (sem gl F a) (sem gl F b) }
  | .as t x _ => { Sm.n with s := sAs (sem gl F t) (sem gl F x) }
  | .pa ts es _ _ _ _ _ => { Sm.n with s := sPa (sem gl F ts) (sem gl F es) }
  | .ag t o x _ => { Sm.n with s := sAg o (sem gl F t) (sem gl F x) }
  | .agI a b o x _ _ => { Sm.n with s := sAgI o (sem gl F a) (sem gl F b) (sem gl F x) }
  | .iff c a b _ => { Sm.n with s := sIf (sem gl F c) (sem gl F a) (sem gl F b) }
  | .wh c b _ => { Sm.n with s := sWh (sem gl F c) (sem gl F b) }
  | .fo t it b _ => { Sm.n with s := sFo (sem gl F t) (sem gl F it) (sem gl F b) }
  | .re x _ => { Sm.n with s := sRe (sem gl F x) }
  | .exs x _ => { Sm.n with s := sEx (sem gl F x) }
  | .bk _ => { Sm.n with s := fun e s => .bk e s }
  | .ct _ => { Sm.n with s := fun e s => .ct e s }
  | .ps _ => { Sm.n with s := fun e s => .nx e s }
  | .ra _ _ => Sm.n
/-- a def: its body, how many parameters, how many slots -/
structure Df where
  b : T
  n : Nat
  m : Nat
def endX : X → R Vl
  | .nx _ s => .ok (.p .none) s
  | .rt v s => .ok v s
  | .ex c x s => .ex c x s
  | _ => .no
def runD (d : Df) (g : En → Sr → X) (vs : List Vl) (s : Sr) : R Vl :=
  if vs.length = d.n then endX (g (vs.map some ++ List.replicate (d.m - d.n) none) s) else .no
def callK (gl : List P) (ds : List Df) : Nat → Nat → List Vl → Sr → R Vl
  | 0 => fun _ _ _ => .no
  | k + 1 => fun f vs s =>
    match ds[f]? with
    | some d => runD d (sem gl (callK gl ds k) d.b).s vs s
    | none => .no
end
end Mi
end
section
set_option Elab.async false
set_option linter.all false
set_option maxRecDepth 100000
set_option maxHeartbeats 1000000
/-! M2: what the heap says of data and stores (RepP, Rel), how it goes on (Stp), readings. -/
namespace Mi
open PySem
open L2 (V HO Hp upd upd_same upd_ne SqL SqT Rd Cx Inv PE PT PA PS PSs PG PGs PI TE TT TA TS TG VK Ends RelV Vals ne_of_none)
abbrev Fg := PySem.W.Frag
abbrev Sg := L2.St
/-- a thing that may be changed -/
def isLive : Ob → Bool
  | .lp z _ => z == 0
  | .dp z _ => z == 0
  | _ => true
def live (ρ : Nat → Addr) (st : Sr) (a : Addr) : Prop := ∃ n o, st[n]? = some o ∧ isLive o = true ∧ ρ n = a
def Mt (O : Addr → Prop) (ρ : Nat → Addr) (st : Sr) (a : Addr) : Prop := O a ∨ live ρ st a
/-- a list of the module's own, to the sign -/
def LsK (K : Fg) (a : Addr) (vs : List V) : Prop := ∃ (its : List Value) (n : Nat), K.lookup a = some { cls := .type "list", data := .seq its.toArray n } ∧ vs.length ≤ sizeLine ∧ Vals vs its
/-- a list that is read -/
def LsX (K : Fg) (H : Hp) (a : Addr) (vs : List V) : Prop := Rd H a (.lst vs) ∨ LsK K a vs
/-- a list read as data: it stays (or it is a list of the module) -/
def LsD (K : Fg) (m : Addr → Prop) (H : Hp) (a : Addr) (vs : List V) : Prop := (Rd H a (.lst vs) ∧ ¬ m a) ∨ LsK K a vs
theorem LsX.sq {K : Fg} {H : Hp} {a : Addr} {vs : List V} (h : LsX K H a vs) : SqL K H a vs := by
  rcases h with h | ⟨its, n, e, z, r⟩
  · exact .inl h
  · exact .inr ⟨_, its.toArray, n, e, rfl, rfl, rfl, by rw [List.size_toArray, ← r.length]; exact z, by simpa using r⟩
theorem LsD.x {K : Fg} {m : Addr → Prop} {H : Hp} {a : Addr} {vs : List V} (h : LsD K m H a vs) : LsX K H a vs := by
  rcases h with h | h
  · exact .inl h.1
  · exact .inr h
theorem LsD.sq {K : Fg} {m : Addr → Prop} {H : Hp} {a : Addr} {vs : List V} (h : LsD K m H a vs) : SqL K H a vs := h.x.sq
mutual
inductive RepP (K : Fg) (m : Addr → Prop) (H : Hp) : P → V → Prop
  | non : RepP K m H .none .non
  | bl (b : Bool) : RepP K m H (.bool b) (.bl b)
  | int (i : Int) : RepP K m H (.int i) (.int i)
  | str (x : Str) : RepP K m H (.str x) (.str x)
  | lst {a : Addr} {ds : List P} {vs : List V} : LsD K m H a vs → ReqP K m H ds vs → RepP K m H (.list ds) (.ref a)
  | tup {a : Addr} {ds : List P} {vs : List V} : SqT K H a vs → ReqP K m H ds vs → RepP K m H (.tuple ds) (.ref a)
inductive ReqP (K : Fg) (m : Addr → Prop) (H : Hp) : List P → List V → Prop
  | nil : ReqP K m H [] []
  | cons {d : P} {ds : List P} {v : V} {vs : List V} : RepP K m H d v → ReqP K m H ds vs → ReqP K m H (d :: ds) (v :: vs)
end
section
variable {K : Fg} {m m' : Addr → Prop} {H H' : Hp}
mutual
theorem RepP.dp : ∀ {d : P} {v : V}, RepP K m H d v → L2.Dp K H v d
  | _, _, .non => .non
  | _, _, .bl b => .bl b
  | _, _, .int i => .int i
  | _, _, .str x => .str x
  | _, _, .lst h r => .lst h.sq r.dp
  | _, _, .tup h r => .tup h r.dp
theorem ReqP.dp : ∀ {ds : List P} {vs : List V}, ReqP K m H ds vs → L2.DpAll K H vs ds
  | _, _, .nil => .nil
  | _, _, .cons h r => .cons h.dp r.dp
end
mutual
theorem RepP.mono (hl : ∀ a vs, LsD K m H a vs → LsD K m' H' a vs) (ht : ∀ a vs, SqT K H a vs → SqT K H' a vs) : ∀ {d : P} {v : V}, RepP K m H d v → RepP K m' H' d v
  | _, _, .non => .non
  | _, _, .bl b => .bl b
  | _, _, .int i => .int i
  | _, _, .str x => .str x
  | _, _, .lst h r => .lst (hl _ _ h) (r.mono hl ht)
  | _, _, .tup h r => .tup (ht _ _ h) (r.mono hl ht)
theorem ReqP.mono (hl : ∀ a vs, LsD K m H a vs → LsD K m' H' a vs) (ht : ∀ a vs, SqT K H a vs → SqT K H' a vs) : ∀ {ds : List P} {vs : List V}, ReqP K m H ds vs → ReqP K m' H' ds vs
  | _, _, .nil => .nil
  | _, _, .cons h r => .cons (h.mono hl ht) (r.mono hl ht)
end
theorem ReqP.len : ∀ {ds : List P} {vs : List V}, ReqP K m H ds vs → ds.length = vs.length
  | _, _, .nil => rfl
  | _, _, .cons _ r => by simp [r.len]
theorem ReqP.get : ∀ {ds : List P} {vs : List V} {i : Nat} {x : P}, ReqP K m H ds vs → ds[i]? = some x → ∃ v, vs[i]? = some v ∧ RepP K m H x v
  | _, _, _, _, .nil, h => by simp at h
  | _, _, 0, _, .cons h r, e => by simp at e; subst e; exact ⟨_, rfl, h⟩
  | _, _, i + 1, x, .cons h r, e => by
    obtain ⟨v, h1, h2⟩ := ReqP.get (i := i) (x := x) r (by simpa using e)
    exact ⟨v, by simpa using h1, h2⟩
theorem ReqP.none_of {ds : List P} {vs : List V} {i : Nat} (r : ReqP K m H ds vs) (e : ds[i]? = none) : vs[i]? = none := by
  have := r.len
  rw [List.getElem?_eq_none_iff] at e ⊢
  omega
theorem ReqP.app : ∀ {ds es : List P} {vs us : List V}, ReqP K m H ds vs → ReqP K m H es us → ReqP K m H (ds ++ es) (vs ++ us)
  | _, _, _, _, .nil, s => s
  | _, _, _, _, .cons h r, s => .cons h (ReqP.app r s)
theorem ReqP.take (n : Nat) : ∀ {ds : List P} {vs : List V}, ReqP K m H ds vs → ReqP K m H (ds.take n) (vs.take n) := by
  induction n with
  | zero => intro ds vs _; simp only [List.take_zero]; exact .nil
  | succ n ih =>
    intro ds vs h
    cases h with
    | nil => exact .nil
    | cons h r => exact .cons h (ih r)
theorem ReqP.drop (n : Nat) : ∀ {ds : List P} {vs : List V}, ReqP K m H ds vs → ReqP K m H (ds.drop n) (vs.drop n) := by
  induction n with
  | zero => intro ds vs h; exact h
  | succ n ih =>
    intro ds vs h
    cases h with
    | nil => exact .nil
    | cons h r => exact ih r
theorem ReqP.set {x : P} {u : V} (hx : RepP K m H x u) : ∀ {ds : List P} {vs : List V} (i : Nat), ReqP K m H ds vs → ReqP K m H (ds.set i x) (vs.set i u)
  | _, _, _, .nil => .nil
  | _, _, 0, .cons _ r => .cons hx r
  | _, _, i + 1, .cons h r => .cons h (ReqP.set hx i r)
theorem ReqP.rev {ds : List P} {vs : List V} (h : ReqP K m H ds vs) : ReqP K m H ds.reverse vs.reverse := by
  induction ds generalizing vs with
  | nil => cases h; exact .nil
  | cons d ds ih =>
    cases h with
    | cons h r =>
      rw [List.reverse_cons, List.reverse_cons]
      exact (ih r).app (.cons h .nil)
theorem RepP.int_inv {i : Int} {v : V} (h : RepP K m H (.int i) v) : v = .int i := by cases h; rfl
theorem RepP.bl_inv {b : Bool} {v : V} (h : RepP K m H (.bool b) v) : v = .bl b := by cases h; rfl
theorem RepP.str_inv {x : Str} {v : V} (h : RepP K m H (.str x) v) : v = .str x := by cases h; rfl
theorem RepP.non_inv {v : V} (h : RepP K m H .none v) : v = .non := by cases h; rfl
theorem RepP.tup_inv {ds : List P} {v : V} (h : RepP K m H (.tuple ds) v) : ∃ a vs, v = .ref a ∧ SqT K H a vs ∧ ReqP K m H ds vs := by
  cases h with
  | tup h r => exact ⟨_, _, rfl, h, r⟩
theorem RepP.lst_inv {ds : List P} {v : V} (h : RepP K m H (.list ds) v) : ∃ a vs, v = .ref a ∧ LsD K m H a vs ∧ ReqP K m H ds vs := by
  cases h with
  | lst h r => exact ⟨_, _, rfl, h, r⟩
theorem ReqP.ints : ∀ {ds : List P} {vs : List V} {ns : List Int}, ReqP K m H ds vs → ints? ds = some ns → ds = ns.map .int ∧ vs = ns.map V.int
  | _, _, _, .nil, h => by cases h; exact ⟨rfl, rfl⟩
  | _, _, ns, .cons (d := d) h r, e => by
    cases h with
    | int i =>
      simp only [ints?, Option.map_eq_some_iff] at e
      obtain ⟨ms, e1, rfl⟩ := e
      obtain ⟨h1, h2⟩ := ReqP.ints r e1
      exact ⟨by rw [h1]; rfl, by rw [h2]; rfl⟩
    | _ => simp [ints?] at e
theorem ReqP.bools : ∀ {ds : List P} {vs : List V} {ns : List Bool}, ReqP K m H ds vs → bools? ds = some ns → ds = ns.map .bool ∧ vs = ns.map V.bl
  | _, _, _, .nil, h => by cases h; exact ⟨rfl, rfl⟩
  | _, _, ns, .cons (d := d) h r, e => by
    cases h with
    | bl i =>
      simp only [bools?, Option.map_eq_some_iff] at e
      obtain ⟨ms, e1, rfl⟩ := e
      obtain ⟨h1, h2⟩ := ReqP.bools r e1
      exact ⟨by rw [h1]; rfl, by rw [h2]; rfl⟩
    | _ => simp [bools?] at e
end
def keyV : L2.Key → P
  | .inl i => .int i
  | .inr x => .str x
/-- a dict's entries -/
inductive KReq (K : Fg) (m : Addr → Prop) (H : Hp) : List (P × P) → List (L2.Key × V) → Prop
  | nil : KReq K m H [] []
  | cons {x y : P} {r : List (P × P)} {k : L2.Key} {v : V} {s : List (L2.Key × V)} : x = keyV k → RepP K m H y v → KReq K m H r s → KReq K m H ((x, y) :: r) ((k, v) :: s)
theorem KReq.map {K : Fg} {m m' : Addr → Prop} {H H' : Hp} (f : ∀ {d v}, RepP K m H d v → RepP K m' H' d v) : ∀ {kvs : List (P × P)} {ks : List (L2.Key × V)}, KReq K m H kvs ks → KReq K m' H' kvs ks
  | _, _, .nil => .nil
  | _, _, .cons e h r => .cons e (f h) (KReq.map f r)
/-- what a value is -/
def Rep (K : Fg) (O : Addr → Prop) (ρ : Nat → Addr) (st : Sr) (H : Hp) : Vl → V → Prop
  | .p x, v => RepP K (Mt O ρ st) H x v
  | .r n, v => n < st.length ∧ v = .ref (ρ n)
inductive Reps (K : Fg) (O : Addr → Prop) (ρ : Nat → Addr) (st : Sr) (H : Hp) : List Vl → List V → Prop
  | nil : Reps K O ρ st H [] []
  | cons {x : Vl} {xs : List Vl} {v : V} {vs : List V} : Rep K O ρ st H x v → Reps K O ρ st H xs vs → Reps K O ρ st H (x :: xs) (v :: vs)
def RepOb (K : Fg) (O : Addr → Prop) (ρ : Nat → Addr) (st : Sr) (H : Hp) : Ob → HO → Prop
  | .lp _ xs, h => ∃ vs, h = .lst vs ∧ ReqP K (Mt O ρ st) H xs vs
  | .lr ns, h => h = .lst (ns.map fun n => V.ref (ρ n)) ∧ ∀ n ∈ ns, n < st.length
  | .dp z kvs, h => ∃ ks, ((z = 0 ∧ h = .dK ks) ∨ (z ≠ 0 ∧ ∃ o, h = .frz o (.dK ks))) ∧ KReq K (Mt O ρ st) H kvs ks
  | _, _ => False
/-- the store -/
structure RelS (K : Fg) (O : Addr → Prop) (ρ : Nat → Addr) (H : Hp) (st : Sr) : Prop where
  ob : ∀ (n : Nat) (o : Ob), st[n]? = some o → ∃ h, H (ρ n) = some h ∧ RepOb K O ρ st H o h
  inj : ∀ n k : Nat, n < st.length → k < st.length → ρ n = ρ k → n = k
  out : ∀ n : Nat, n < st.length → ¬ O (ρ n)
  al : ∀ a, O a → H a ≠ none
/-- the names -/
structure RelE (K : Fg) (O : Addr → Prop) (ρ : Nat → Addr) (σ : Sg) (H : Hp) (e : En) (st : Sr) : Prop where
  ln : σ.length = e.length
  sl : ∀ (i : Nat) (x : Vl), e[i]? = some (some x) → ∃ v, σ[i]? = some (some v) ∧ Rep K O ρ st H x v
structure Rel (K : Fg) (O : Addr → Prop) (ρ : Nat → Addr) (σ : Sg) (H : Hp) (e : En) (st : Sr) : Prop where
  S : RelS K O ρ H st
  E : RelE K O ρ σ H e st
/-- how the heap goes on -/
structure Stp (ρ : Nat → Addr) (st : Sr) (H : Hp) (ρ' : Nat → Addr) (st' : Sr) (H' : Hp) : Prop where
  le : st.length ≤ st'.length
  ag : ∀ n : Nat, n < st.length → ρ' n = ρ n
  lv : ∀ a, live ρ' st' a → live ρ st a ∨ H a = none
  kp : ∀ a o, H a = some o → ¬ live ρ st a → (∀ ps, o ≠ .tbl ps) → H' a = some o
  lr : ∀ (n : Nat) (ns : List Nat), st[n]? = some (Ob.lr ns) → ∃ ns' : List Nat, st'[n]? = some (.lr ns')
  tb : ∀ a ps, H a = some (.tbl ps) → ∃ more, H' a = some (.tbl (ps ++ more))
  lp : ∀ (n z : Nat) (xs : List P), st[n]? = some (Ob.lp z xs) → ∃ (z' : Nat) (xs' : List P), st'[n]? = some (.lp z' xs')
  dp : ∀ (n z : Nat) (xs : List (P × P)), st[n]? = some (Ob.dp z xs) → ∃ (z' : Nat) (xs' : List (P × P)), st'[n]? = some (.dp z' xs')
section
variable {K : Fg} {O : Addr → Prop} {ρ ρ' ρ'' : Nat → Addr} {σ σ' : Sg} {H H' H'' : Hp} {e : En} {st st' st'' : Sr}
theorem Stp.rfl : Stp ρ st H ρ st H := ⟨Nat.le_refl _, fun _ _ => Eq.refl _, fun _ h => .inl h, fun _ _ h _ _ => h, fun _ _ h => ⟨_, h⟩, fun _ ps h => ⟨#[], by rw [h]; simp⟩, fun _ _ _ h => ⟨_, _, h⟩, fun _ _ _ h => ⟨_, _, h⟩⟩
theorem live_lst (S : RelS K O ρ H st) {a : Addr} (h : live ρ st a) : (∃ vs, H a = some (.lst vs)) ∨ ∃ ks, H a = some (.dK ks) := by
  obtain ⟨n, o, h1, h2, rfl⟩ := h
  obtain ⟨u, e1, e2⟩ := S.ob n o h1
  cases o with
  | lp z xs => obtain ⟨vs, rfl, _⟩ := e2; exact .inl ⟨vs, e1⟩
  | lr ns => obtain ⟨rfl, _⟩ := e2; exact .inl ⟨_, e1⟩
  | dp z kvs =>
    obtain ⟨ks, ⟨_, q⟩ | ⟨q, _⟩, _⟩ := e2
    · exact .inr ⟨ks, by rw [e1, q]⟩
    · exact absurd (by simpa [isLive] using h2) q
  | no => exact e2.elim
theorem Stp.there (S : RelS K O ρ H st) (S' : RelS K O ρ' H' st') (s : Stp ρ st H ρ' st' H') {a : Addr} (h : H a ≠ none) : H' a ≠ none := by
  cases q : H a with
  | none => exact absurd q h
  | some o =>
    by_cases hl : live ρ st a
    · obtain ⟨n, u, h1, _, rfl⟩ := hl
      have hn : n < st.length := (List.getElem?_eq_some_iff.mp h1).1
      have hn' : n < st'.length := Nat.lt_of_lt_of_le hn s.le
      obtain ⟨w, e1, _⟩ := S'.ob n st'[n] (by simp [hn'])
      rw [← s.ag n hn, e1]
      simp
    · by_cases ht : ∃ ps, o = .tbl ps
      · obtain ⟨ps, rfl⟩ := ht
        obtain ⟨more, e⟩ := s.tb a ps q
        rw [e]; simp
      · rw [s.kp a o q hl fun ps z => ht ⟨ps, z⟩]
        simp
theorem Stp.trans (S : RelS K O ρ H st) (S' : RelS K O ρ' H' st') (a : Stp ρ st H ρ' st' H') (b : Stp ρ' st' H' ρ'' st'' H'') : Stp ρ st H ρ'' st'' H'' where
  le := Nat.le_trans a.le b.le
  ag := fun n h => (b.ag n (Nat.lt_of_lt_of_le h a.le)).trans (a.ag n h)
  lv := fun c h => by
    rcases b.lv c h with h | h
    · exact a.lv c h
    · refine .inr (Classical.byContradiction fun q => a.there S S' q h)
  kp := fun c o h hn ht => b.kp c o (a.kp c o h hn ht) (fun q => by
    rcases a.lv c q with q | q
    · exact hn q
    · rw [h] at q; cases q) ht
  lr := fun n ns h => by
    obtain ⟨ns', h'⟩ := a.lr n ns h
    exact b.lr n ns' h'
  tb := fun c ps h => by
    obtain ⟨m1, h1⟩ := a.tb c ps h
    obtain ⟨m2, h2⟩ := b.tb c _ h1
    exact ⟨m1 ++ m2, by rw [h2, Array.append_assoc]⟩
  lp := fun n z xs h => by
    obtain ⟨z', xs', h'⟩ := a.lp n z xs h
    exact b.lp n z' xs' h'
  dp := fun n z xs h => by
    obtain ⟨z', xs', h'⟩ := a.dp n z xs h
    exact b.dp n z' xs' h'
theorem Stp.tupK (S : RelS K O ρ H st) (s : Stp ρ st H ρ' st' H') {a : Addr} {vs : List V} (h : SqT K H a vs) : SqT K H' a vs := by
  have nl : ∀ u, H a = some u → (∀ ws, u ≠ .lst ws) → (∀ ws, u ≠ .dK ws) → ¬ live ρ st a := fun u e n n2 q => by
    rcases live_lst S q with ⟨ws, e'⟩ | ⟨ws, e'⟩
    · rw [e] at e'; cases e'; exact n ws (Eq.refl _)
    · rw [e] at e'; cases e'; exact n2 ws (Eq.refl _)
  rcases h with h | h
  · refine .inl ?_
    rcases h with h | ⟨o, h⟩
    · exact .inl (s.kp a _ h (nl _ h (fun ws z => nomatch z) fun ws z => nomatch z) fun ps z => nomatch z)
    · exact .inr ⟨o, s.kp a _ h (nl _ h (fun ws z => nomatch z) fun ws z => nomatch z) fun ps z => nomatch z⟩
  · exact .inr h
theorem Stp.lstK (S : RelS K O ρ H st) (s : Stp ρ st H ρ' st' H') {a : Addr} {vs : List V} (h : LsD K (Mt O ρ st) H a vs) : LsD K (Mt O ρ' st') H' a vs := by
  rcases h with ⟨h, n⟩ | h
  · have hn : ¬ live ρ st a := fun q => n (.inr q)
    have some' : H a ≠ none := by
      rcases h with h | ⟨o, h⟩ <;> (rw [h]; simp)
    refine .inl ⟨?_, fun q => ?_⟩
    · rcases h with h | ⟨o, h⟩
      · exact .inl (s.kp a _ h hn fun ps z => nomatch z)
      · exact .inr ⟨o, s.kp a _ h hn fun ps z => nomatch z⟩
    · rcases q with q | q
      · exact n (.inl q)
      · rcases s.lv a q with q | q
        · exact hn q
        · exact some' q
  · exact .inr h
theorem RepP.stp (S : RelS K O ρ H st) (s : Stp ρ st H ρ' st' H') {d : P} {v : V} (h : RepP K (Mt O ρ st) H d v) : RepP K (Mt O ρ' st') H' d v :=
  h.mono (fun _ _ q => s.lstK S q) fun _ _ q => s.tupK S q
theorem ReqP.stp (S : RelS K O ρ H st) (s : Stp ρ st H ρ' st' H') {d : List P} {v : List V} (h : ReqP K (Mt O ρ st) H d v) : ReqP K (Mt O ρ' st') H' d v :=
  h.mono (fun _ _ q => s.lstK S q) fun _ _ q => s.tupK S q
theorem Rep.stp (S : RelS K O ρ H st) (s : Stp ρ st H ρ' st' H') {x : Vl} {v : V} (h : Rep K O ρ st H x v) : Rep K O ρ' st' H' x v := by
  cases x with
  | p x => exact RepP.stp S s h
  | r n => exact ⟨Nat.lt_of_lt_of_le h.1 s.le, by rw [s.ag n h.1]; exact h.2⟩
theorem Reps.stp (S : RelS K O ρ H st) (s : Stp ρ st H ρ' st' H') : ∀ {xs : List Vl} {vs : List V}, Reps K O ρ st H xs vs → Reps K O ρ' st' H' xs vs
  | _, _, .nil => .nil
  | _, _, .cons h r => .cons (h.stp S s) (Reps.stp S s r)
theorem RelE.stp (S : RelS K O ρ H st) (s : Stp ρ st H ρ' st' H') (E : RelE K O ρ σ H e st) : RelE K O ρ' σ H' e st' :=
  ⟨E.ln, fun i x h => let ⟨v, h1, h2⟩ := E.sl i x h; ⟨v, h1, h2.stp S s⟩⟩
theorem RelE.set (E : RelE K O ρ σ H e st) {x : Vl} {v : V} (h : Rep K O ρ st H x v) (i : Nat) : RelE K O ρ (σ.set i (some v)) H (e.set i (some x)) st := by
  refine ⟨by simp [E.ln], fun j y hj => ?_⟩
  by_cases q : i = j
  · subst q
    have hi : i < e.length := by
      have := (List.getElem?_eq_some_iff.mp hj).1
      simpa using this
    rw [List.getElem?_set_self hi] at hj
    cases hj
    exact ⟨v, by rw [List.getElem?_set_self (by rw [E.ln]; exact hi)], h⟩
  · rw [List.getElem?_set_ne q] at hj
    obtain ⟨u, h1, h2⟩ := E.sl j y hj
    exact ⟨u, by rw [List.getElem?_set_ne q]; exact h1, h2⟩
theorem Reps.len : ∀ {xs : List Vl} {vs : List V}, Reps K O ρ st H xs vs → xs.length = vs.length
  | _, _, .nil => Eq.refl _
  | _, _, .cons _ r => by simp [r.len]
theorem Reps.app : ∀ {xs ys : List Vl} {vs us : List V}, Reps K O ρ st H xs vs → Reps K O ρ st H ys us → Reps K O ρ st H (xs ++ ys) (vs ++ us)
  | _, _, _, _, .nil, s => s
  | _, _, _, _, .cons h r, s => .cons h (Reps.app r s)
theorem ReqP.reps : ∀ {xs : List P} {vs : List V}, ReqP K (Mt O ρ st) H xs vs → Reps K O ρ st H (xs.map .p) vs
  | _, _, .nil => .nil
  | _, _, .cons h r => .cons h (ReqP.reps r)
/-- a new thing that the store does not hold -/
theorem Stp.new {p : Addr} {o : HO} (S : RelS K O ρ H st) (hp : H p = none) : Stp ρ st H ρ st (upd H p o) :=
  ⟨Nat.le_refl _, fun _ _ => Eq.refl _, fun _ h => .inl h, fun a u h _ _ => by rw [upd_ne (ne_of_none h hp)]; exact h, fun _ _ h => ⟨_, h⟩, fun a ps h => ⟨#[], by rw [upd_ne (ne_of_none h hp), h]; simp⟩, fun _ _ _ h => ⟨_, _, h⟩, fun _ _ _ h => ⟨_, _, h⟩⟩
theorem RelS.stp0 (S : RelS K O ρ H st) (s : Stp ρ st H ρ st H') (h : ∀ (n : Nat) (o : Ob), st[n]? = some o → H' (ρ n) = H (ρ n)) : RelS K O ρ H' st := by
  refine ⟨fun n o e => ?_, S.inj, S.out, fun a ha q => ?_⟩
  · obtain ⟨u, e1, e2⟩ := S.ob n o e
    refine ⟨u, (h n o e).trans e1, ?_⟩
    cases o with
    | lp z xs => obtain ⟨vs, rfl, r⟩ := e2; exact ⟨vs, Eq.refl _, r.stp S s⟩
    | lr ns => exact e2
    | dp z kvs => obtain ⟨ks, q, r⟩ := e2; exact ⟨ks, q, r.map fun h => h.stp S s⟩
    | no => exact e2.elim
  · cases q' : H a with
    | none => exact S.al a ha q'
    | some u =>
      by_cases hl : live ρ st a
      · obtain ⟨n, o, h1, _, rfl⟩ := hl
        rw [h n o h1, q'] at q; cases q
      · by_cases ht : ∃ ps, u = .tbl ps
        · obtain ⟨ps, rfl⟩ := ht
          obtain ⟨more, z⟩ := s.tb a ps q'
          rw [z] at q; cases q
        · rw [s.kp a u q' hl fun ps z => ht ⟨ps, z⟩] at q; cases q
theorem RelS.new {p : Addr} {o : HO} (S : RelS K O ρ H st) (hp : H p = none) : RelS K O ρ (upd H p o) st :=
  S.stp0 (Stp.new S hp) fun n u e => by
    obtain ⟨w, e1, _⟩ := S.ob n u e
    rw [upd_ne (ne_of_none e1 hp)]
theorem RelS.notO (S : RelS K O ρ H st) {p : Addr} (hp : H p = none) : ¬ Mt O ρ st p := fun q => by
  rcases q with q | q
  · exact S.al p q hp
  · rcases live_lst S q with ⟨vs, e⟩ | ⟨vs, e⟩ <;> (rw [hp] at e; cases e)
/-- a new tuple, a new list given away as data -/
theorem rep_newT {p : Addr} {xs : List P} {vs : List V} (S : RelS K O ρ H st) (hp : H p = none) (r : ReqP K (Mt O ρ st) H xs vs) : Rep K O ρ st (upd H p (.tup vs)) (.p (.tuple xs)) (.ref p) :=
  RepP.tup (L2.SqT.of upd_same) (r.stp S (Stp.new S hp))
theorem rep_newL {p : Addr} {xs : List P} {vs : List V} (S : RelS K O ρ H st) (hp : H p = none) (r : ReqP K (Mt O ρ st) H xs vs) : Rep K O ρ st (upd H p (.lst vs)) (.p (.list xs)) (.ref p) :=
  RepP.lst (.inl ⟨.inl upd_same, S.notO hp⟩) (r.stp S (Stp.new S hp))
/-- a new thing of the store -/
def ext (ρ : Nat → Addr) (n : Nat) (p : Addr) : Nat → Addr := fun k => if k = n then p else ρ k
theorem ext_same {n : Nat} {p : Addr} : ext ρ n p n = p := if_pos (Eq.refl _)
theorem ext_ne {n k : Nat} {p : Addr} (h : k ≠ n) : ext ρ n p k = ρ k := if_neg h
theorem Stp.push {p : Addr} {o : Ob} {h : HO} (hp : H p = none) : Stp ρ st H (ext ρ st.length p) (st ++ [o]) (upd H p h) := by
  refine ⟨by simp, fun n hn => ext_ne (Nat.ne_of_lt hn), fun a ⟨n, u, h1, h2, h3⟩ => ?_, fun a u e _ _ => by rw [upd_ne (ne_of_none e hp)]; exact e, fun n ns e => ⟨ns, ?_⟩, fun a ps e => ⟨#[], by rw [upd_ne (ne_of_none e hp), e]; simp⟩, fun n z xs e => ⟨z, xs, by rw [List.getElem?_append_left (List.getElem?_eq_some_iff.mp e).1]; exact e⟩, fun n z xs e => ⟨z, xs, by rw [List.getElem?_append_left (List.getElem?_eq_some_iff.mp e).1]; exact e⟩⟩
  · by_cases q : n = st.length
    · subst q
      rw [ext_same] at h3
      subst h3
      exact .inr hp
    · rw [ext_ne q] at h3
      have hlt : n < st.length := by
        have := (List.getElem?_eq_some_iff.mp h1).1
        simp at this; omega
      rw [List.getElem?_append_left hlt] at h1
      exact .inl ⟨n, u, h1, h2, h3⟩
  · rw [List.getElem?_append_left (List.getElem?_eq_some_iff.mp e).1]; exact e
theorem RelS.pushO {p : Addr} {ob : Ob} {ho : HO} (S : RelS K O ρ H st) (hp : H p = none) (r : RepOb K O (ext ρ st.length p) (st ++ [ob]) (upd H p ho) ob ho) :
    RelS K O (ext ρ st.length p) (upd H p ho) (st ++ [ob]) := by
  have s : Stp ρ st H (ext ρ st.length p) (st ++ [ob]) (upd H p ho) := Stp.push hp
  refine ⟨fun n o e => ?_, fun n k hn hk q => ?_, fun n hn => ?_, fun a ha => ?_⟩
  · by_cases q : n = st.length
    · subst q
      rw [List.getElem?_append_right (Nat.le_refl _)] at e
      simp at e
      subst e
      exact ⟨_, by rw [ext_same, upd_same], r⟩
    · have hlt : n < st.length := by
        have := (List.getElem?_eq_some_iff.mp e).1
        simp at this; omega
      rw [List.getElem?_append_left hlt] at e
      obtain ⟨u, e1, e2⟩ := S.ob n o e
      refine ⟨u, by rw [ext_ne q, upd_ne (ne_of_none e1 hp)]; exact e1, ?_⟩
      cases o with
      | lp z xs => obtain ⟨ws, rfl, r⟩ := e2; exact ⟨ws, Eq.refl _, r.stp S s⟩
      | lr ns =>
        obtain ⟨e2, e3⟩ := e2
        refine ⟨?_, fun n hn => by have := e3 n hn; simp; omega⟩
        rw [e2]
        congr 1
        refine List.map_congr_left fun n hn => ?_
        rw [ext_ne (Nat.ne_of_lt (e3 n hn))]
      | dp z kvs => obtain ⟨ks, q, r⟩ := e2; exact ⟨ks, q, r.map fun h => h.stp S s⟩
      | no => exact e2.elim
  · have old : ∀ n, n < st.length → ρ n ≠ p := fun n hn z => by
      obtain ⟨u, e1, _⟩ := S.ob n st[n] (by simp [hn])
      rw [z, hp] at e1; cases e1
    simp only [List.length_append, List.length_cons, List.length_nil] at hn hk
    by_cases h1 : n = st.length <;> by_cases h2 : k = st.length
    · omega
    · subst h1
      rw [ext_same, ext_ne h2] at q
      exact absurd q.symm (old k (by omega))
    · subst h2
      rw [ext_same, ext_ne h1] at q
      exact absurd q (old n (by omega))
    · rw [ext_ne h1, ext_ne h2] at q
      exact S.inj n k (by omega) (by omega) q
  · simp only [List.length_append, List.length_cons, List.length_nil] at hn
    by_cases h1 : n = st.length
    · subst h1
      rw [ext_same]
      exact fun z => S.al p z hp
    · rw [ext_ne h1]
      exact S.out n (by omega)
  · by_cases q : a = p
    · subst q; rw [upd_same]; simp
    · rw [upd_ne q]; exact S.al a ha
theorem RelS.push {p : Addr} {z : Nat} {xs : List P} {vs : List V} (S : RelS K O ρ H st) (hp : H p = none) (r : ReqP K (Mt O ρ st) H xs vs) :
    RelS K O (ext ρ st.length p) (upd H p (.lst vs)) (st ++ [.lp z xs]) := S.pushO hp ⟨vs, Eq.refl _, r.stp S (Stp.push hp)⟩
theorem RelS.pushD {p : Addr} {xs : List (P × P)} {ks : List (L2.Key × V)} (S : RelS K O ρ H st) (hp : H p = none) (r : KReq K (Mt O ρ st) H xs ks) :
    RelS K O (ext ρ st.length p) (upd H p (.dK ks)) (st ++ [.dp 0 xs]) := S.pushO hp ⟨ks, .inl ⟨Eq.refl _, Eq.refl _⟩, r.map fun h => h.stp S (Stp.push hp)⟩
/-- a thing of the store is changed, or given away -/
theorem Stp.upd {n : Nat} {o o' : Ob} {h : HO} (hn : st[n]? = some o) (hl : isLive o = true) (hr : ∀ ns, o = .lr ns → ∃ ns', o' = .lr ns') (hq : ∀ z xs, o = .lp z xs → ∃ z' xs', o' = .lp z' xs') (hd : ∀ z xs, o = .dp z xs → ∃ z' xs', o' = .dp z' xs') (S : RelS K O ρ H st) : Stp ρ st H ρ (st.set n o') (L2.upd H (ρ n) h) := by
  have lt := (List.getElem?_eq_some_iff.mp hn).1
  have lv : live ρ st (ρ n) := ⟨n, o, hn, hl, Eq.refl _⟩
  refine ⟨by simp, fun _ _ => Eq.refl _, fun a ⟨k, u, h1, h2, h3⟩ => ?_, fun a u e q _ => ?_, fun k ns e => ?_, fun a ps e => ?_, fun k z xs e => ?_, fun k z xs e => ?_⟩
  · by_cases q : n = k
    · subst q; exact .inl (h3 ▸ lv)
    · rw [List.getElem?_set_ne q] at h1
      exact .inl ⟨k, u, h1, h2, h3⟩
  · have : a ≠ ρ n := fun z => q (z ▸ lv)
    rw [upd_ne this]; exact e
  · by_cases q : n = k
    · subst q
      rw [hn] at e; cases e
      obtain ⟨ns', e'⟩ := hr ns (Eq.refl _)
      exact ⟨ns', by rw [List.getElem?_set_self lt, e']⟩
    · exact ⟨ns, by rw [List.getElem?_set_ne q]; exact e⟩
  · have : a ≠ ρ n := fun z => by
      rcases live_lst S lv with ⟨vs, e'⟩ | ⟨vs, e'⟩ <;> (rw [z, e'] at e; cases e)
    exact ⟨#[], by rw [upd_ne this, e]; simp⟩
  · by_cases q : n = k
    · subst q
      rw [hn] at e; cases e
      obtain ⟨z', xs', e'⟩ := hq z xs (Eq.refl _)
      exact ⟨z', xs', by rw [List.getElem?_set_self lt, e']⟩
    · exact ⟨z, xs, by rw [List.getElem?_set_ne q]; exact e⟩
  · by_cases q : n = k
    · subst q
      rw [hn] at e; cases e
      obtain ⟨z', xs', e'⟩ := hd z xs (Eq.refl _)
      exact ⟨z', xs', by rw [List.getElem?_set_self lt, e']⟩
    · exact ⟨z, xs, by rw [List.getElem?_set_ne q]; exact e⟩
end
/-! ### another ground of owned places -/
section
variable {K : Fg} {O O' : Addr → Prop} {ρ ρ' : Nat → Addr} {σ : Sg} {H H' : Hp} {e : En} {st st' : Sr}
theorem LsD.oth {m m' : Addr → Prop} (h : ∀ a, H a ≠ none → m' a → m a) {a : Addr} {vs : List V} (q : LsD K m H a vs) : LsD K m' H a vs := by
  rcases q with ⟨q, n⟩ | q
  · refine .inl ⟨q, fun z => n (h a ?_ z)⟩
    rcases q with q | ⟨o, q⟩ <;> (rw [q]; simp)
  · exact .inr q
theorem RepP.oth {m m' : Addr → Prop} (h : ∀ a, H a ≠ none → m' a → m a) {d : P} {v : V} (q : RepP K m H d v) : RepP K m' H d v := q.mono (fun _ _ q => q.oth h) fun _ _ q => q
theorem ReqP.oth {m m' : Addr → Prop} (h : ∀ a, H a ≠ none → m' a → m a) {d : List P} {v : List V} (q : ReqP K m H d v) : ReqP K m' H d v := q.mono (fun _ _ q => q.oth h) fun _ _ q => q
/-- what an address of O' is: one of O, or one that holds nothing yet -/
def Wid (O O' : Addr → Prop) (H : Hp) : Prop := ∀ a, O' a → O a ∨ H a = none
theorem Wid.mt (w : Wid O O' H) : ∀ a, H a ≠ none → Mt O' ρ st a → Mt O ρ st a := fun a h q => by
  rcases q with q | q
  · rcases w a q with q | q
    · exact .inl q
    · exact absurd q h
  · exact .inr q
theorem Wid.rfl : Wid O O H := fun _ h => .inl h
theorem Rep.wid (w : Wid O O' H) {x : Vl} {v : V} (h : Rep K O ρ st H x v) : Rep K O' ρ st H x v := by
  cases x with
  | p x => exact RepP.oth w.mt h
  | r n => exact h
theorem RelS.wid (S : RelS K O ρ H st) (w : Wid O O' H) (al : ∀ a, O' a → H a ≠ none) : RelS K O' ρ H st := by
  refine ⟨fun n o h => ?_, S.inj, fun n h q => ?_, al⟩
  · obtain ⟨u, e1, e2⟩ := S.ob n o h
    refine ⟨u, e1, ?_⟩
    cases o with
    | lp z xs => obtain ⟨vs, rfl, r⟩ := e2; exact ⟨vs, Eq.refl _, r.oth w.mt⟩
    | lr ns => exact e2
    | dp z kvs => obtain ⟨ks, q, r⟩ := e2; exact ⟨ks, q, r.map fun h => h.oth w.mt⟩
    | no => exact e2.elim
  · rcases w _ q with q | q
    · exact S.out n h q
    · obtain ⟨u, e1, _⟩ := S.ob n st[n] (by simp [h])
      rw [q] at e1; cases e1
theorem RelE.wid (E : RelE K O ρ σ H e st) (w : Wid O O' H) : RelE K O' ρ σ H e st :=
  ⟨E.ln, fun i x h => let ⟨v, h1, h2⟩ := E.sl i x h; ⟨v, h1, h2.wid w⟩⟩
end
section
variable {K : Fg} {O O' O1 : Addr → Prop} {ρ ρ' : Nat → Addr} {σ : Sg} {H H' : Hp} {e : En} {st st' : Sr}
theorem LsD.go (w : Wid O O' H) (s : Stp ρ st H ρ' st' H') {a : Addr} {vs : List V} (h : LsD K (Mt O ρ st) H a vs) : LsD K (Mt O' ρ' st') H' a vs := by
  rcases LsD.oth (w.mt (ρ := ρ) (st := st)) h with ⟨h, n⟩ | h
  · have hn : ¬ live ρ st a := fun q => n (.inr q)
    have some' : H a ≠ none := by
      rcases h with h | ⟨o, h⟩ <;> (rw [h]; simp)
    refine .inl ⟨?_, fun q => ?_⟩
    · rcases h with h | ⟨o, h⟩
      · exact .inl (s.kp a _ h hn fun ps z => nomatch z)
      · exact .inr ⟨o, s.kp a _ h hn fun ps z => nomatch z⟩
    · rcases q with q | q
      · exact n (.inl q)
      · rcases s.lv a q with q | q
        · exact hn q
        · exact some' q
  · exact .inr h
theorem RepP.go (S : RelS K O1 ρ H st) (w : Wid O O' H) (s : Stp ρ st H ρ' st' H') {d : P} {v : V} (h : RepP K (Mt O ρ st) H d v) : RepP K (Mt O' ρ' st') H' d v :=
  h.mono (fun _ _ q => q.go w s) fun _ _ q => s.tupK S q
theorem ReqP.go (S : RelS K O1 ρ H st) (w : Wid O O' H) (s : Stp ρ st H ρ' st' H') {d : List P} {v : List V} (h : ReqP K (Mt O ρ st) H d v) : ReqP K (Mt O' ρ' st') H' d v :=
  h.mono (fun _ _ q => q.go w s) fun _ _ q => s.tupK S q
end
end Mi
end
section
set_option Elab.async false
set_option linter.all false
set_option maxRecDepth 100000
set_option maxHeartbeats 1000000
/-! M3: operators on data, by values. -/
namespace Mi
open PySem
open L2 (V HO Hp upd upd_same upd_ne SqL SqT Rd Cx Inv PE PT PA PS PSs PG PGs PI TE TT TA TS TG VK Ends RelV Vals ne_of_none OpR R2 EP CallR UnR)
/-- what is read as data: a list may be one of the store -/
inductive RdP (K : Fg) (m : Addr → Prop) (H : Hp) : P → V → Prop
  | of {x : P} {v : V} : RepP K m H x v → RdP K m H x v
  | lst {a : Addr} {ds : List P} {vs : List V} : LsX K H a vs → ReqP K m H ds vs → RdP K m H (.list ds) (.ref a)
section
variable {K : Fg} {m : Addr → Prop} {H : Hp} {O : Addr → Prop} {ρ : Nat → Addr} {st : Sr}
theorem RdP.int {i : Int} {v : V} (h : RdP K m H (.int i) v) : v = .int i := by cases h with | of h => exact h.int_inv
theorem RdP.bl {b : Bool} {v : V} (h : RdP K m H (.bool b) v) : v = .bl b := by cases h with | of h => exact h.bl_inv
theorem RdP.str {x : Str} {v : V} (h : RdP K m H (.str x) v) : v = .str x := by cases h with | of h => exact h.str_inv
theorem RdP.non {v : V} (h : RdP K m H .none v) : v = .non := by cases h with | of h => exact h.non_inv
theorem RdP.tup {ds : List P} {v : V} (h : RdP K m H (.tuple ds) v) : ∃ a vs, v = .ref a ∧ SqT K H a vs ∧ ReqP K m H ds vs := by cases h with | of h => exact h.tup_inv
theorem RdP.list {ds : List P} {v : V} (h : RdP K m H (.list ds) v) : ∃ a vs, v = .ref a ∧ LsX K H a vs ∧ ReqP K m H ds vs := by
  cases h with
  | of h => obtain ⟨a, vs, e, l, r⟩ := h.lst_inv; exact ⟨a, vs, e, l.x, r⟩
  | lst h r => exact ⟨_, _, rfl, h, r⟩
theorem RdP.dict {ds : List (P × P)} {v : V} (h : RdP K m H (.dict ds) v) : False := by cases h with | of h => cases h
theorem RdP.dp {x : P} {v : V} (h : RdP K m H x v) : L2.Dp K H v x := by
  cases h with
  | of h => exact h.dp
  | lst h r => exact .lst h.sq r.dp
theorem dd_rd (S : RelS K O ρ H st) {x : Vl} {v : V} {a : P} (h : Rep K O ρ st H x v) (e : dd x st = some a) : RdP K (Mt O ρ st) H a v := by
  cases x with
  | p x => simp only [dd, Option.some.injEq] at e; subst e; exact .of h
  | r n =>
    obtain ⟨hn, rfl⟩ := h
    simp only [dd] at e
    split at e
    · rename_i z xs q
      cases e
      obtain ⟨h, e1, vs, rfl, r⟩ := S.ob n _ q
      exact .lst (.inl (.inl e1)) r
    · cases e
inductive RdPs (K : Fg) (m : Addr → Prop) (H : Hp) : List P → List V → Prop
  | nil : RdPs K m H [] []
  | cons {x : P} {xs : List P} {v : V} {vs : List V} : RdP K m H x v → RdPs K m H xs vs → RdPs K m H (x :: xs) (v :: vs)
theorem ddL_rd (S : RelS K O ρ H st) : ∀ {xs : List Vl} {vs : List V} {as : List P}, Reps K O ρ st H xs vs → ddL xs st = some as → RdPs K (Mt O ρ st) H as vs
  | _, _, _, .nil, e => by cases e; exact .nil
  | _, _, as, .cons h r, e => by
    simp only [ddL] at e
    split at e
    · rename_i a bs e1 e2
      cases e
      exact .cons (dd_rd S h e1) (ddL_rd S r e2)
    · cases e
end
/-- data in, data out -/
def rP (K : Fg) (f : P → P → Option P) : R2 := fun x y H Q => ∃ (O : Addr → Prop) (ρ : Nat → Addr) (st : Sr) (a b c : P), RelS K O ρ H st ∧ RdP K (Mt O ρ st) H a x ∧ RdP K (Mt O ρ st) H b y ∧ f a b = some c ∧
  ∀ H' v, Stp ρ st H ρ st H' → RelS K O ρ H' st → RepP K (Mt O ρ st) H' c v → Q v H'
def rP1 (K : Fg) (f : P → Option P) : V → Hp → VK → Prop := fun x H Q => ∃ (O : Addr → Prop) (ρ : Nat → Addr) (st : Sr) (a c : P), RelS K O ρ H st ∧ RdP K (Mt O ρ st) H a x ∧ f a = some c ∧
  ∀ H' v, Stp ρ st H ρ st H' → RelS K O ρ H' st → RepP K (Mt O ρ st) H' c v → Q v H'
def rPL (K : Fg) (f : List P → Option P) : List V → Hp → VK → Prop := fun xs H Q => ∃ (O : Addr → Prop) (ρ : Nat → Addr) (st : Sr) (as : List P) (c : P), RelS K O ρ H st ∧ RdPs K (Mt O ρ st) H as xs ∧ f as = some c ∧
  ∀ H' v, Stp ρ st H ρ st H' → RelS K O ρ H' st → RepP K (Mt O ρ st) H' c v → Q v H'
theorem lim_line {n : Nat} (h : n ≤ lim) : n ≤ sizeLine := Nat.le_trans h (by decide +kernel)
section
variable {C : Cx} {pins : List (Addr × Obj)} {s : Shared} {σ : Sg} {H : Hp}
theorem LsX.get (I : Inv C pins σ H s) {a : Addr} {vs : List V} (h : LsX C.K H a vs) : ∃ (its : List Value) (n : Nat), Vals vs its ∧ s.heap.get? a = some { cls := .type "list", data := .seq its.toArray n } ∧ vs.length ≤ sizeLine := by
  rcases h with h | ⟨its, n, e, z, r⟩
  · obtain ⟨z, its, n, r, e⟩ := h.ok I.hok
    exact ⟨its, n, r, e, z⟩
  · exact ⟨its, n, r, I.kIn a _ e, z⟩
theorem lst_new {xs : List V} {its : List Value} {t : Nat} (I : Inv C pins σ H s) (r : Vals xs its) (z : xs.length ≤ sizeLine) :
    Inv C pins σ (upd H s.heap.objs.size (.lst xs)) { s with heap := s.heap.push { cls := .type "list", data := .seq its.toArray }, toks := t } :=
  I.laid (fun _ _ q => Heap.get?_push_of_some _ q) (Nat.le_refl _) ⟨z, its, 0, r, Heap.get?_push_size _ rfl⟩
theorem tup_new {xs : List V} {its : List Value} {t : Nat} (I : Inv C pins σ H s) (r : Vals xs its) (z : xs.length ≤ sizeLine) :
    Inv C pins σ (upd H s.heap.objs.size (.tup xs)) { s with heap := s.heap.push { cls := .type "tuple", data := .seq its.toArray }, toks := t } :=
  I.laid (fun _ _ q => Heap.get?_push_of_some _ q) (Nat.le_refl _) ⟨z, its, r, ⟨_, Heap.get?_push_size _ rfl, rfl, _, rfl⟩⟩
theorem frsh (I : Inv C pins σ H s) : H s.heap.objs.size = none := I.hok.fresh (Nat.le_refl _)
/-- two lists put together -/
theorem add_two {a b : Addr} {xs ys : List V} {Q : VK} (I : Inv C pins σ H s) (ha : LsX C.K H a xs) (hb : LsX C.K H b ys) (hz : xs.length + ys.length ≤ sizeLine)
    (q : ∀ p, H p = none → Q (.ref p) (upd H p (.lst (xs ++ ys)))) : wpAny (model C.prog C.w) C.A (binaryOp .Add (.ref a) (.ref b)) (EP C pins σ Q) C.xe s := by
  obtain ⟨ia, n, ra, ea, za⟩ := ha.get I
  obtain ⟨ib, k, rb, eb, zb⟩ := hb.get I
  have la := ra.length
  have lb := rb.length
  refine PySem.P.add_list ea eb ?_ (by simp only [List.size_toArray]; omega)
  rw [show ia.toArray ++ ib.toArray = (ia ++ ib).toArray by simp]
  exact ⟨.ref _, _, lst_new (t := s.toks) I (ra.append rb) (by simpa using hz), rfl, q _ (frsh I)⟩
theorem opAdd : OpR C (binaryOp .Add) (rP C.K (binP .Add)) := by
  intro pins s σ H x y v u Q I rx ry ⟨O, ρ, st, a, b, c, S, ra, rb, e, k⟩
  cases a with
  | int i =>
    cases b with
    | int j =>
      cases e
      exact L2.op_add pins s σ H x y v u Q I rx ry ⟨i, j, ra.int, rb.int, k _ _ .rfl S (.int _)⟩
    | _ => simp [binP] at e
  | str i =>
    cases b with
    | str j =>
      simp only [binP] at e
      split at e
      · cases e
        exact L2.op_add_str pins s σ H x y v u Q I rx ry ⟨i, j, ra.str, rb.str, lim_line (by assumption), k _ _ .rfl S (.str _)⟩
      · cases e
    | _ => simp [binP] at e
  | tuple ds =>
    cases b with
    | tuple es =>
      simp only [binP] at e
      split at e
      · rename_i hz
        cases e
        obtain ⟨p, xs, rfl, h1, r1⟩ := ra.tup
        obtain ⟨q, ys, rfl, h2, r2⟩ := rb.tup
        have l1 := r1.len
        have l2 := r2.len
        refine L2.op_catA pins s σ H _ _ v u Q I rx ry ⟨p, q, xs, ys, rfl, rfl, h1, h2, lim_line (by omega), fun z => ?_, fun _ z => ?_, fun _ _ t ht => ?_⟩
        · subst z
          cases r1
          exact k _ _ .rfl S (.tup h2 r2)
        · subst z
          cases r2
          rw [List.append_nil] at k
          exact k _ _ .rfl S (.tup h1 r1)
        · exact k _ _ (Stp.new S ht) (S.new ht) (rep_newT S ht (r1.app r2))
      · cases e
    | _ => simp [binP] at e
  | list ds =>
    cases b with
    | list es =>
      simp only [binP] at e
      split at e
      · rename_i hz
        cases e
        obtain ⟨p, xs, rfl, h1, r1⟩ := ra.list
        obtain ⟨q, ys, rfl, h2, r2⟩ := rb.list
        have l1 := r1.len
        have l2 := r2.len
        cases rx
        cases ry
        exact add_two I h1 h2 (lim_line (by omega)) fun t ht => k _ _ (Stp.new S ht) (S.new ht) (rep_newL S ht (r1.app r2))
      · cases e
    | _ => simp [binP] at e
  | _ => simp [binP] at e
theorem opSub : OpR C (binaryOp .Sub) (rP C.K (binP .Sub)) := by
  intro pins s σ H x y v u Q I rx ry ⟨O, ρ, st, a, b, c, S, ra, rb, e, k⟩
  cases a with
  | int i =>
    cases b with
    | int j =>
      cases e
      exact L2.op_sub pins s σ H x y v u Q I rx ry ⟨i, j, ra.int, rb.int, k _ _ .rfl S (.int _)⟩
    | _ => simp [binP] at e
  | _ => simp [binP] at e
theorem mul_ok {i j : Int} (h : MulOk i j) : IntMulOk i j := by
  rcases h with h | h | h
  · exact L2.CMul.ok (.inl h)
  · exact L2.CMul.ok (.inr h)
  · exact L2.CMulW.ok h
theorem rep_vals {xs : List V} {its : List Value} (r : Vals xs its) : ∀ n, Vals (rep xs n) (rep its n)
  | 0 => .nil
  | n + 1 => by
    show Vals (List.replicate (n + 1) xs).flatten (List.replicate (n + 1) its).flatten
    rw [List.replicate_succ, List.replicate_succ, List.flatten_cons, List.flatten_cons]
    exact r.append (rep_vals r n)
theorem rep_req {K : Fg} {m : Addr → Prop} {H : Hp} {xs : List P} {vs : List V} (r : ReqP K m H xs vs) : ∀ n, ReqP K m H (rep xs n) (rep vs n)
  | 0 => .nil
  | n + 1 => by
    show ReqP K m H (List.replicate (n + 1) xs).flatten (List.replicate (n + 1) vs).flatten
    rw [List.replicate_succ, List.replicate_succ, List.flatten_cons, List.flatten_cons]
    exact r.app (rep_req r n)
/-- a tuple times 1 is the tuple itself -/
theorem tuple_mul1 (l : Addr) (items : Array Value) (n : Nat) (dd : Option Addr) (sl : Array (Option Value)) (u : Tok) :
    Meets (Builtin.«tuple.__mul__» ⟨[.ref l, .int 1 u], []⟩) (fun _ R s => s.heap.get? l = some { cls := .type "tuple", dict := dd, data := .seq items n, slots := sl } ∧ R (.ok (.ret (Value.ref l))) s) :=
  .of_wp fun prog w A R s h => by
    obtain ⟨hp, g, d, tk, os⟩ := s
    obtain ⟨hl, h⟩ := h
    have f1 := AutoSeq1.idx_int
    have c1 : (items.isEmpty || (1 : Int) == 1) = true := by simp
    wp_walk using wpAny_loadPart' hl
    repeat (first
      | (refine wpAny_ite_false (decide_eq_false (by decide)) ?_; wp_walk using wpAny_loadPart' hl)
      | (refine wpAny_ite_true (decide_eq_true c1) ?_; wp_walk using wpAny_loadPart' hl)
      | (refine wpAny_ite_true (decide_eq_true (by decide)) ?_; wp_walk using wpAny_loadPart' hl))
    exact ⟨_, rfl, h⟩
theorem mul_tup1 {l : Addr} {xs : List V} {t : Tok} {Q : VK} (I : Inv C pins σ H s) (hT : SqT C.K H l xs)
    (q : Q (.ref l) H) : wpAny (model C.prog C.w) C.A (binaryOp .Mult (.ref l) (.int 1 t)) (EP C pins σ Q) C.xe s := by
  obtain ⟨its, r, ⟨⟨cls, dd, data, sl⟩, ho, hc, n, hd⟩, hs⟩ := I.tuple hT
  simp only at hc hd
  subst hc hd
  exact wpAny_binaryOp_repeat_ref (T := "tuple") (U := "int") (by decide) ⟨_, ho, rfl⟩ (fun s' => typeIs_int s' 1 t) L2.noFill_tuple_mul F.fills_int_mul F.slot_int_rmul L2.repeat_tuple F.slot_int_index.lookup
    (call_meets F.slot_int_rmul (typeIs_int s 1 t) F.entry_int_rmul (F.args_int_rmul_2 _ _) (L2.int_rmul_tuple 1 t l its.toArray n dd sl)
      ⟨ho, rfl, ⟨_, ho, rfl⟩, call_meets F.slot_tuple_mul ⟨_, ho, rfl⟩ F.entry_tuple_mul (F.args_tuple_mul_2 _ _) (tuple_mul1 l its.toArray n dd sl t) ⟨ho, .ref l, H, I, rfl, q⟩⟩)
/-- a list times an int -/
theorem mul_two {l : Addr} {xs : List V} {k : Int} {t : Tok} {Q : VK} (I : Inv C pins σ H s) (ha : LsX C.K H l xs) (h1 : 0 ≤ k) (h2 : k < 2 ^ 63) (hz : xs.length * k.toNat ≤ sizeLine)
    (q : ∀ p, H p = none → Q (.ref p) (upd H p (.lst (rep xs k.toNat)))) : wpAny (model C.prog C.w) C.A (binaryOp .Mult (.ref l) (.int k t)) (EP C pins σ Q) C.xe s := by
  obtain ⟨its, n, r, e, z⟩ := ha.get I
  have hl : xs.length = its.length := r.length
  have hlen : its.toArray.size * k.toNat ≤ sizeLine := by rw [List.size_toArray, ← hl]; exact hz
  have hcap : ¬ its.toArray.size * k.toNat > (2 ^ 63 - 1) / 8 := by
    have : (sizeLine : Nat) ≤ (2 ^ 63 - 1) / 8 := by decide
    omega
  have hfit : ¬ (!Builtin.List.listFitsIndex k) = true := by
    rw [PySem.fitsIndex_both (by omega) h2]
    exact Bool.false_ne_true
  have hlong : ¬ Builtin.List.listTooLong (its.toArray.size * k.toNat) = true := by
    rw [L2.notLongL hlen]
    exact Bool.false_ne_true
  have hnew : List.foldl (fun x1 x2 => x1 ++ x2) #[] (List.replicate (if its.toArray.isEmpty = true then 0 else k.toNat) its.toArray) = (List.replicate k.toNat its).flatten.toArray := by
    rw [L2.size_rep]
    cases its with
    | nil => simp
    | cons a r' => rw [if_neg (by simp)]
  refine wpAny_binaryOp_repeat_ref (T := "list") (U := "int") (by decide) ⟨_, e, rfl⟩ (fun s' => typeIs_int s' k t) PySem.noFill_list_mul F.fills_int_mul F.slot_int_rmul PySem.repeat_list F.slot_int_index.lookup
    (call_meets F.slot_int_rmul (typeIs_int s k t) F.entry_int_rmul (F.args_int_rmul_2 _ _) (PySem.int___rmul___int_list k t l its.toArray n)
      ⟨e, rfl, ⟨_, e, rfl⟩, call_meets F.slot_list_mul ⟨_, e, rfl⟩ F.entry_list_mul (F.args_list_mul_2 _ _) (AutoListH.list___mul___list_int_3 l its.toArray n k t hfit hcap hlong) ⟨e, ?_⟩⟩)
  rw [hnew]
  exact ⟨.ref _, _, lst_new (t := s.toks) I (r.rep k.toNat) (by rw [PyProof.Rows.lm_len_rep_flat, Nat.mul_comm]; exact hz), rfl, q _ (frsh I)⟩
theorem opMul : OpR C (binaryOp .Mult) (rP C.K (binP .Mult)) := by
  intro pins s σ H x y v u Q I rx ry ⟨O, ρ, st, a, b, c, S, ra, rb, e, k⟩
  cases a with
  | int i =>
    cases b with
    | int j =>
      simp only [binP] at e
      split at e
      · rename_i hm
        cases e
        cases ra.int
        cases rb.int
        obtain ⟨t, rfl⟩ := rx
        obtain ⟨t', rfl⟩ := ry
        exact PyProof.Rows.mul_int ⟨.int _, H, I.tok _, ⟨_, rfl⟩, k _ _ .rfl S (.int _)⟩ (mul_ok hm)
      · cases e
    | _ => simp [binP] at e
  | tuple ds =>
    cases b with
    | int j =>
      simp only [binP] at e
      split at e
      · rename_i hz
        cases e
        obtain ⟨p, xs, rfl, h1, r1⟩ := ra.tup
        cases rb.int
        have l1 := r1.len
        by_cases h11 : j = 1
        · subst h11
          cases rx
          obtain ⟨t, rfl⟩ := ry
          have e1 : rep ds (1 : Int).toNat = ds := by simp [rep]
          rw [e1] at k
          exact mul_tup1 I h1 (k _ _ .rfl S (.tup h1 r1))
        refine L2.op_repT pins s σ H _ _ v u Q I rx ry ⟨p, j, xs, rfl, rfl, h1, ?_, by omega, hz.2.2.1, by omega, fun t ht => ?_⟩
        · rintro rfl
          cases r1
          exact hz.1 rfl
        · exact k _ _ (Stp.new S ht) (S.new ht) (rep_newT S ht (rep_req r1 j.toNat))
      · cases e
    | _ => simp [binP] at e
  | list ds =>
    cases b with
    | int j =>
      simp only [binP] at e
      split at e
      · rename_i hz
        cases e
        obtain ⟨p, xs, rfl, h1, r1⟩ := ra.list
        cases rb.int
        have l1 := r1.len
        cases rx
        obtain ⟨t, rfl⟩ := ry
        exact mul_two I h1 (k := j) hz.1 (by have := hz.2.1; unfold lim at this; omega) (lim_line (by rw [← l1]; exact hz.2.2)) fun p hp => k _ _ (Stp.new S hp) (S.new hp) (rep_newL S hp (rep_req r1 j.toNat))
      · cases e
    | _ => simp [binP] at e
  | _ => simp [binP] at e
theorem opDiv : OpR C (binaryOp .FloorDiv) (rP C.K (binP .FloorDiv)) := by
  intro pins s σ H x y v u Q I rx ry ⟨O, ρ, st, a, b, c, S, ra, rb, e, k⟩
  cases a with
  | int i =>
    cases b with
    | int j =>
      simp only [binP] at e
      split at e
      · rename_i hd
        cases e
        cases ra.int
        cases rb.int
        rcases hd with hd | hd
        · exact L2.op_fdiv pins s σ H _ _ v u Q I rx ry ⟨i, j, rfl, rfl, hd, k _ _ .rfl S (.int _)⟩
        · exact L2.op_fdivW pins s σ H _ _ v u Q I rx ry ⟨i, j, rfl, rfl, hd, k _ _ .rfl S (.int _)⟩
      · cases e
    | _ => simp [binP] at e
  | _ => simp [binP] at e
theorem opMod : OpR C (binaryOp .Mod) (rP C.K (binP .Mod)) := by
  intro pins s σ H x y v u Q I rx ry ⟨O, ρ, st, a, b, c, S, ra, rb, e, k⟩
  cases a with
  | int i =>
    cases b with
    | int j =>
      simp only [binP] at e
      split at e
      · rename_i hd
        cases e
        cases ra.int
        cases rb.int
        exact L2.op_mod pins s σ H _ _ v u Q I rx ry ⟨i, j, rfl, rfl, hd, k _ _ .rfl S (.int _)⟩
      · cases e
    | _ => simp [binP] at e
  | _ => simp [binP] at e
theorem opPow : OpR C (binaryOp .Pow) (rP C.K (binP .Pow)) := by
  intro pins s σ H x y v u Q I rx ry ⟨O, ρ, st, a, b, c, S, ra, rb, e, k⟩
  cases a with
  | int i =>
    cases b with
    | int j =>
      simp only [binP] at e
      split at e
      · rename_i hd
        cases e
        cases ra.int
        cases rb.int
        obtain ⟨h0, hd | hd⟩ := hd
        · exact L2.op_pow pins s σ H _ _ v u Q I rx ry ⟨i, j, rfl, rfl, ⟨h0, hd.2, by have := hd.1; omega⟩, k _ _ .rfl S (.int _)⟩
        · obtain ⟨t, rfl⟩ := rx
          obtain ⟨t', rfl⟩ := ry
          refine PyProof.Rows.pow_int h0 ?_ ⟨.int _, H, I.tok _, ⟨_, rfl⟩, k _ _ .rfl S (.int _)⟩
          have hb : (Builtin.Int.intBits i : Int) ≤ i.natAbs.log2 + 1 := by
            unfold Builtin.Int.intBits
            split <;> omega
          exact Int.le_trans (Int.mul_le_mul_of_nonneg_right hb h0) (by have : (2:Int)^27 = 134217728 := by decide
                                                                        omega)
      · cases e
    | _ => simp [binP] at e
  | _ => simp [binP] at e
theorem opBin (o : Operator) : OpR C (binaryOp o) (rP C.K (binP o)) := by
  cases o with
  | Add => exact opAdd
  | Sub => exact opSub
  | Mult => exact opMul
  | FloorDiv => exact opDiv
  | Mod => exact opMod
  | Pow => exact opPow
  | _ =>
    intro pins s σ H x y v u Q I rx ry ⟨O, ρ, st, a, b, c, S, ra, rb, e, k⟩
    simp [binP] at e
theorem unNeg : L2.UnR C (unaryOp .USub) (rP1 C.K negP) := by
  intro pins s σ H x v Q I rx ⟨O, ρ, st, a, c, S, ra, e, k⟩
  cases a with
  | int i =>
    cases e
    exact L2.un_neg pins s σ H x v Q I rx ⟨i, ra.int, k _ _ .rfl S (.int _)⟩
  | _ => simp [negP] at e
end
end Mi
end
section
set_option Elab.async false
set_option linter.all false
set_option maxRecDepth 100000
set_option maxHeartbeats 1000000
/-! M4: comparisons, truth, subscripts, built-in calls, by data. -/
namespace Mi
open PySem
open L2 (V HO Hp upd upd_same upd_ne SqL SqT Rd Cx Inv PE PT PA PS PSs PG PGs PI TE TT TA TS TG VK Ends RelV Vals ne_of_none OpR R2 EP CallR UnR IxR SlR TruR Dp TyX TyOf)
/-- data in, a bool out -/
def rC (K : Fg) (o : CmpOp) : R2 := fun x y H Q => ∃ (O : Addr → Prop) (ρ : Nat → Addr) (st : Sr) (a b : P) (c : Bool), RelS K O ρ H st ∧ RdP K (Mt O ρ st) H a x ∧ RdP K (Mt O ρ st) H b y ∧ cmpP o a b = some c ∧ Q (.bl c) H
section
variable {C : Cx} {pins : List (Addr × Obj)} {s : Shared} {σ : Sg} {H : Hp}
theorem sh_int (i : Int) : SeqAt.shaped (.int i) = true := rfl
theorem RdP.str_ok {m : Addr → Prop} {x : P} {v : V} (h : RdP C.K m H x v) : L2.Dp C.K H v x := h.dp
theorem cEq (hu : C.A.units + 65 < cLine) : OpR C (compareOp .Eq) (rC C.K .Eq) := by
  intro pins s σ H x y v u Q I rx ry ⟨O, ρ, st, a, b, c, S, ra, rb, e, k⟩
  have gen : ∀ c, (if sh a && sh b then some (PyData.eqv a b) else none) = some c → Q (.bl c) H → wpAny (model C.prog C.w) C.A (compareOp .Eq v u) (EP C pins σ Q) C.xe s := by
    intro c h k
    split at h
    · rename_i q
      rw [Bool.and_eq_true] at q
      cases h
      exact L2.op_eqD (by omega) pins s σ H x y v u Q I rx ry ⟨a, b, ra.dp, rb.dp, q.1, q.2, k⟩
    · cases h
  have old : ∀ (x' y' : V), x = x' → y = y' → L2.scal x' y' = true → Q (.bl (decide (x' = y'))) H → wpAny (model C.prog C.w) C.A (compareOp .Eq v u) (EP C pins σ Q) C.xe s := by
    rintro x' y' rfl rfl h q
    exact L2.op_eq pins s σ H x y v u Q I rx ry ⟨h, q⟩
  cases a with
  | int i =>
    cases b with
    | int j => cases e; exact old _ _ ra.int rb.int rfl (by simpa using k)
    | _ => exact gen c e k
  | str i =>
    cases b with
    | str j => cases e; exact old _ _ ra.str rb.str rfl (by simpa using k)
    | _ => exact gen c e k
  | _ => exact gen c e k
theorem cNe (hu : C.A.units + 65 < cLine) : OpR C (compareOp .NotEq) (rC C.K .NotEq) := by
  intro pins s σ H x y v u Q I rx ry ⟨O, ρ, st, a, b, c, S, ra, rb, e, k⟩
  have gen : ∀ c, (if sh a && sh b then some (!PyData.eqv a b) else none) = some c → Q (.bl c) H → wpAny (model C.prog C.w) C.A (compareOp .NotEq v u) (EP C pins σ Q) C.xe s := by
    intro c h k
    split at h
    · rename_i q
      rw [Bool.and_eq_true] at q
      cases h
      exact L2.op_neD (by omega) pins s σ H x y v u Q I rx ry ⟨a, b, ra.dp, rb.dp, q.1, q.2, k⟩
    · cases h
  have old : ∀ (x' y' : V), x = x' → y = y' → L2.scal x' y' = true → Q (.bl (!decide (x' = y'))) H → wpAny (model C.prog C.w) C.A (compareOp .NotEq v u) (EP C pins σ Q) C.xe s := by
    rintro x' y' rfl rfl h q
    exact L2.op_ne pins s σ H x y v u Q I rx ry ⟨h, q⟩
  cases a with
  | int i =>
    cases b with
    | int j => cases e; exact old _ _ ra.int rb.int rfl (by simpa using k)
    | _ => exact gen c e k
  | str i =>
    cases b with
    | str j => cases e; exact old _ _ ra.str rb.str rfl (by simpa using k)
    | _ => exact gen c e k
  | _ => exact gen c e k
theorem cInt {o : CmpOp} {f : Int → Int → Bool} (hf : ∀ a b c, cmpP o a b = some c → ∃ i j, a = .int i ∧ b = .int j ∧ c = f i j) (rule : OpR C (compareOp o) (L2.rI0 fun i j => .bl (f i j))) : OpR C (compareOp o) (rC C.K o) := by
  intro pins s σ H x y v u Q I rx ry ⟨O, ρ, st, a, b, c, S, ra, rb, e, k⟩
  obtain ⟨i, j, rfl, rfl, rfl⟩ := hf a b c e
  exact rule pins s σ H x y v u Q I rx ry ⟨i, j, ra.int, rb.int, k⟩
theorem cIn (hu : C.A.units + 65 < cLine) : OpR C (compareOp .In) (rC C.K .In) := by
  intro pins s σ H x y v u Q I rx ry ⟨O, ρ, st, a, b, c, S, ra, rb, e, k⟩
  cases b with
  | list ys =>
    simp only [cmpP] at e
    split at e
    · rename_i q
      rw [Bool.and_eq_true] at q
      cases e
      exact L2.op_inD hu pins s σ H x y v u Q I rx ry ⟨a, ys, ra.dp, rb.dp, q.1, q.2, k⟩
    · cases e
  | tuple ys =>
    simp only [cmpP] at e
    split at e
    · rename_i q
      rw [Bool.and_eq_true] at q
      cases e
      obtain ⟨as, r1⟩ := Dp.reads I a x v ra.dp rx
      obtain ⟨bs, r2⟩ := Dp.reads I (.tuple ys) y u rb.dp ry
      exact SeqAt.in_tuple_reads r2 r1 (SeqAt.canLay_of_shaped q.2) (SeqAt.canLay_of_shaped q.1) (PyProof.Rows.room_in_shaped q.1 hu) ⟨.bl _, H, I, rfl, k⟩
    · cases e
  | _ => simp [cmpP] at e
theorem cNotIn (hu : C.A.units + 65 < cLine) : OpR C (compareOp .NotIn) (rC C.K .NotIn) := by
  intro pins s σ H x y v u Q I rx ry ⟨O, ρ, st, a, b, c, S, ra, rb, e, k⟩
  cases b with
  | list ys =>
    simp only [cmpP] at e
    split at e
    · rename_i q
      rw [Bool.and_eq_true] at q
      cases e
      exact L2.op_notInD hu pins s σ H x y v u Q I rx ry ⟨a, ys, ra.dp, rb.dp, q.1, q.2, k⟩
    · cases e
  | tuple ys =>
    simp only [cmpP] at e
    split at e
    · rename_i q
      rw [Bool.and_eq_true] at q
      cases e
      obtain ⟨as, r1⟩ := Dp.reads I a x v ra.dp rx
      obtain ⟨bs, r2⟩ := Dp.reads I (.tuple ys) y u rb.dp ry
      exact SeqAt.notIn_tuple_reads r2 r1 (SeqAt.canLay_of_shaped q.2) (SeqAt.canLay_of_shaped q.1) (PyProof.Rows.room_in_shaped q.1 hu) ⟨.bl _, H, I, rfl, k⟩
    · cases e
  | _ => simp [cmpP] at e
theorem RdP.isN {m : Addr → Prop} {x : P} {v : V} (h : RdP C.K m H x v) : decide (v = V.non) = (match x with | .none => true | _ => false) := by
  cases h with
  | of h => cases h <;> simp
  | lst _ _ => simp
theorem isB {M : Model} {A : Around} {E : Value → Shared → Prop} {s : Shared} {i j : Bool} {Q : Value → Shared → Prop} (q : Q (.bool (i == j)) s) : wpAny M A (compareOp .Is (.bool i) (.bool j)) Q E s := by
  show wpAny _ _ ((isSame (Value.bool i) (Value.bool j)) >>= fun z => pure (Value.bool z)) _ _ s
  refine wpAny_bind (wpAny_isSame_plain rfl (wpAny_pure ?_))
  cases i <;> cases j <;> exact q
theorem isNB {M : Model} {A : Around} {E : Value → Shared → Prop} {s : Shared} {i j : Bool} {Q : Value → Shared → Prop} (q : Q (.bool (!(i == j))) s) : wpAny M A (compareOp .IsNot (.bool i) (.bool j)) Q E s := by
  show wpAny _ _ ((isSame (Value.bool i) (Value.bool j)) >>= fun z => pure (Value.bool (!z))) _ _ s
  refine wpAny_bind (wpAny_isSame_plain rfl (wpAny_pure ?_))
  cases i <;> cases j <;> exact q
theorem cIs : OpR C (compareOp .Is) (rC C.K .Is) := by
  intro pins s σ H x y v u Q I rx ry ⟨O, ρ, st, a, b, c, S, ra, rb, e, k⟩
  cases b with
  | none =>
    refine L2.op_isN pins s σ H x y v u Q I rx ry ⟨rb.non, ?_⟩
    rw [ra.isN]
    cases a <;> (cases e; exact k)
  | bool j =>
    cases a with
    | bool i =>
      cases e
      rw [ra.bl] at rx
      rw [rb.bl] at ry
      cases rx
      cases ry
      refine isB (L2.fin_bl I k rfl)
    | _ => cases e
  | _ => cases a <;> cases e
theorem cIsNot : OpR C (compareOp .IsNot) (rC C.K .IsNot) := by
  intro pins s σ H x y v u Q I rx ry ⟨O, ρ, st, a, b, c, S, ra, rb, e, k⟩
  cases b with
  | none =>
    refine L2.op_notN pins s σ H x y v u Q I rx ry ⟨rb.non, ?_⟩
    rw [ra.isN]
    cases a <;> (cases e; exact k)
  | bool j =>
    cases a with
    | bool i =>
      cases e
      rw [ra.bl] at rx
      rw [rb.bl] at ry
      cases rx
      cases ry
      refine isNB (L2.fin_bl I k rfl)
    | _ => cases e
  | _ => cases a <;> cases e
theorem opCmp (hu : C.A.units + 65 < cLine) (o : CmpOp) : OpR C (compareOp o) (rC C.K o) := by
  cases o with
  | Eq => exact cEq hu
  | NotEq => exact cNe hu
  | In => exact cIn hu
  | NotIn => exact cNotIn hu
  | Is => exact cIs
  | IsNot => exact cIsNot
  | Lt =>
    refine cInt (f := fun i j => decide (i < j)) (fun a b c h => ?_) L2.op_lt
    cases a <;> cases b <;> cases h
    exact ⟨_, _, rfl, rfl, rfl⟩
  | LtE =>
    refine cInt (f := fun i j => decide (i ≤ j)) (fun a b c h => ?_) L2.op_le
    cases a <;> cases b <;> cases h
    exact ⟨_, _, rfl, rfl, rfl⟩
  | Gt =>
    refine cInt (f := fun i j => decide (j < i)) (fun a b c h => ?_) L2.op_gt
    cases a <;> cases b <;> cases h
    exact ⟨_, _, rfl, rfl, rfl⟩
  | GtE =>
    refine cInt (f := fun i j => decide (j ≤ i)) (fun a b c h => ?_) L2.op_ge
    cases a <;> cases b <;> cases h
    exact ⟨_, _, rfl, rfl, rfl⟩
/-! ### truth -/
theorem rd_tru {m : Addr → Prop} {x : P} {v : V} {b : Bool} (h : RdP C.K m H x v) (e : tru x = some b) : L2.TruV C.K v H b := by
  cases x with
  | none => cases e; cases h.non; exact rfl
  | bool b => cases e; cases h.bl; exact rfl
  | int i => cases e; cases h.int; exact rfl
  | str y =>
    simp only [tru] at e
    split at e
    · cases e; cases h.str; exact ⟨lim_line (by assumption), rfl⟩
    · cases e
  | list ds =>
    cases e
    obtain ⟨a, vs, rfl, l, r⟩ := h.list
    refine .inl ⟨vs, l.sq, ?_⟩
    cases r <;> rfl
  | tuple ds =>
    cases e
    obtain ⟨a, vs, rfl, l, r⟩ := h.tup
    refine .inr (.inl ⟨vs, l, ?_⟩)
    cases r <;> rfl
  | dict kvs => cases e
/-! ### len and others of one piece of data -/
theorem vals1 {x : V} {us : List Value} (r : Vals [x] us) : ∃ u, us = [u] ∧ RelV x u := L2.vals1 r
theorem RdPs.one {m : Addr → Prop} {a : P} {xs : List V} (h : RdPs C.K m H [a] xs) : ∃ x, xs = [x] ∧ RdP C.K m H a x := by
  cases h with
  | cons h r => cases r; exact ⟨_, rfl, h⟩
theorem RdPs.two {m : Addr → Prop} {a b : P} {xs : List V} (h : RdPs C.K m H [a, b] xs) : ∃ x y, xs = [x, y] ∧ RdP C.K m H a x ∧ RdP C.K m H b y := by
  cases h with
  | cons h r =>
    obtain ⟨y, rfl, h2⟩ := r.one
    exact ⟨_, _, rfl, h, h2⟩
def BiR (C : Cx) (f : Bi) (u : Value) : Prop := CallR C u (rPL C.K (biP f))
theorem bLen : BiR C .len (.builtin "len") := by
  intro pins s σ H xs us Q I rs ⟨O, ρ, st, as, c, S, ra, e, k⟩
  cases as with
  | nil => simp [biP] at e
  | cons a as =>
    cases as with
    | cons b as => cases a <;> simp [biP] at e
    | nil =>
      obtain ⟨x, rfl, h⟩ := RdPs.one (C := C) ra
      cases a with
      | str y =>
        simp only [biP] at e
        split at e
        · cases e
          cases h.str
          exact L2.call_len pins s σ H _ us Q I rs ⟨_, _, rfl, ⟨lim_line (by assumption), rfl⟩, k _ _ .rfl S (.int _)⟩
        · cases e
      | list ds =>
        cases e
        obtain ⟨a, vs, rfl, l, r⟩ := h.list
        refine L2.call_len pins s σ H _ us Q I rs ⟨_, _, rfl, .inl ⟨vs, l.sq, rfl⟩, ?_⟩
        rw [← r.len]
        exact k _ _ .rfl S (.int _)
      | tuple ds =>
        cases e
        obtain ⟨a, vs, rfl, l, r⟩ := h.tup
        refine L2.call_len pins s σ H _ us Q I rs ⟨_, _, rfl, .inr ⟨vs, l, rfl⟩, ?_⟩
        rw [← r.len]
        exact k _ _ .rfl S (.int _)
      | dict kvs => exact h.dict.elim
      | _ => simp [biP] at e
theorem bInt : BiR C .int (.type "int") := by
  intro pins s σ H xs us Q I rs ⟨O, ρ, st, as, c, S, ra, e, k⟩
  cases as with
  | nil => simp [biP] at e
  | cons a as =>
    cases as with
    | cons b as => cases a <;> simp [biP] at e
    | nil =>
      obtain ⟨x, rfl, h⟩ := RdPs.one (C := C) ra
      cases a with
      | int i => cases e; exact L2.call_int1 pins s σ H _ us Q I rs (.inl ⟨i, by rw [h.int], k _ _ .rfl S (.int _)⟩)
      | bool i => cases e; exact L2.call_int1 pins s σ H _ us Q I rs (.inr ⟨i, by rw [h.bl], k _ _ .rfl S (.int _)⟩)
      | _ => simp [biP] at e
theorem bAbs : BiR C .abs (.builtin "abs") := by
  intro pins s σ H xs us Q I rs ⟨O, ρ, st, as, c, S, ra, e, k⟩
  cases as with
  | nil => simp [biP] at e
  | cons a as =>
    cases as with
    | cons b as => cases a <;> simp [biP] at e
    | nil =>
      obtain ⟨x, rfl, h⟩ := RdPs.one (C := C) ra
      cases a with
      | int i => cases e; exact L2.call_abs pins s σ H _ us Q I rs ⟨i, by rw [h.int], k _ _ .rfl S (.int _)⟩
      | _ => simp [biP] at e
theorem maxI_mem : ∀ (r : List Int) (m : Int), (maxI m r ∈ m :: r) ∧ ∀ a ∈ m :: r, a ≤ maxI m r
  | [], m => by simp [maxI]
  | x :: r, m => by
    obtain ⟨h1, h2⟩ := maxI_mem r (if x > m then x else m)
    simp only [maxI]
    refine ⟨?_, fun a ha => ?_⟩
    · rcases List.mem_cons.mp h1 with h | h
      · rw [h]
        split <;> simp
      · simp [h]
    · have h3 := h2 (if x > m then x else m) (by simp)
      have h4 : m ≤ (maxI (if x > m then x else m) r) ∧ x ≤ (maxI (if x > m then x else m) r) := by
        generalize maxI (if x > m then x else m) r = M at h3 ⊢
        split at h3 <;> omega
      rcases List.mem_cons.mp ha with rfl | ha
      · exact h4.1
      · rcases List.mem_cons.mp ha with rfl | ha
        · exact h4.2
        · exact h2 a (by simp [ha])
theorem minI_mem : ∀ (r : List Int) (m : Int), (minI m r ∈ m :: r) ∧ ∀ a ∈ m :: r, minI m r ≤ a
  | [], m => by simp [minI]
  | x :: r, m => by
    obtain ⟨h1, h2⟩ := minI_mem r (if x < m then x else m)
    simp only [minI]
    refine ⟨?_, fun a ha => ?_⟩
    · rcases List.mem_cons.mp h1 with h | h
      · rw [h]
        split <;> simp
      · simp [h]
    · have h3 := h2 (if x < m then x else m) (by simp)
      have h4 : (minI (if x < m then x else m) r) ≤ m ∧ (minI (if x < m then x else m) r) ≤ x := by
        generalize minI (if x < m then x else m) r = M at h3 ⊢
        split at h3 <;> omega
      rcases List.mem_cons.mp ha with rfl | ha
      · exact h4.1
      · rcases List.mem_cons.mp ha with rfl | ha
        · exact h4.2
        · exact h2 a (by simp [ha])
theorem reqs_read (I : Inv C pins σ H s) {m : Addr → Prop} : ∀ {ds : List P} {vs : List V} {us : List Value}, ReqP C.K m H ds vs → Vals vs us → ∃ as, ReadsAll s.heap us ds as
  | _, _, _, .nil, .nil => ⟨_, .nil⟩
  | _, _, _, .cons h r, .cons q t => by
    obtain ⟨as, h1⟩ := Dp.reads I _ _ _ h.dp q
    obtain ⟨bs, h2⟩ := reqs_read I r t
    exact ⟨_, .cons h1 h2⟩
theorem reqs_at (I : Inv C pins σ H s) {m : Addr → Prop} : ∀ {ds : List P} {vs : List V} {us : List Value}, ReqP C.K m H ds vs → Vals vs us → ∀ (i : Nat) (v : Value), us[i]? = some v → ∃ d w, d ∈ ds ∧ RepP C.K m H d w ∧ RelV w v
  | _, _, _, .nil, .nil => fun i v h => by simp at h
  | _, _, _, .cons h r, .cons q t => fun i v e => by
    cases i with
    | zero => cases e; exact ⟨_, _, List.mem_cons_self, h, q⟩
    | succ i =>
      obtain ⟨d, w, h1, h2, h3⟩ := reqs_at I r t i v e
      exact ⟨d, w, List.mem_cons_of_mem _ h1, h2, h3⟩
theorem okMx_al {xs : List P} (h : okMx xs = true) : W.AlikeAll xs ∧ PyData.depthAll xs ≤ 50 := by
  unfold okMx at h
  rw [Bool.and_eq_true] at h
  obtain ⟨h1, h2⟩ := h
  have h3 : ∀ x ∈ xs, isNon x = false ∧ x.depth ≤ 50 := fun x hx => by
    have := List.all_eq_true.mp h2 x hx
    rw [Bool.and_eq_true] at this
    exact ⟨by simpa using this.1, of_decide_eq_true this.2⟩
  refine ⟨⟨fun x hx y hy => List.all_eq_true.mp (List.all_eq_true.mp h1 x hx) y hy, fun x hx e => ?_⟩, ?_⟩
  · rw [e] at hx
    have := (h3 _ hx).1
    cases this
  · clear h1 h2
    induction xs with
    | nil => simp [PyData.depthAll]
    | cons x r ih =>
      have := (h3 x List.mem_cons_self).2
      have := ih fun y hy => h3 y (List.mem_cons_of_mem _ hy)
      simp only [PyData.depthAll]
      omega
theorem mx_fin (I : Inv C pins σ H s) {m : Addr → Prop} {ds : List P} {vs : List V} {us : List Value} {Q : VK} {c : P} {i : Nat} {v : Value} {h' : Heap} {tk : Nat} {bs : List Addr} (rr : ReqP C.K m H ds vs) (rv : Vals vs us) (hv : us.toArray[i]? = some v) (r : Reads h' v c bs) (hk : ∀ b o, s.heap.get? b = some o → h'.get? b = some o)
    (k : ∀ w, RepP C.K m H c w → Q w H) : EP C pins σ Q v { s with heap := h', toks := tk } := by
  obtain ⟨d, w, h1, h2, h3⟩ := reqs_at I rr rv i v (by simpa using hv)
  obtain ⟨as, h4⟩ := Dp.reads (I.kept (t' := tk) hk) _ _ _ h2.dp h3
  obtain ⟨rfl, _⟩ := Reads.unique h4 _ _ r
  exact ⟨w, H, I.kept hk, h3, k w h2⟩
theorem bMax (hc : C.calm = true) (hu : C.A.units + 65 < cLine) : BiR C .max (.builtin "max") := by
  intro pins s σ H xs us Q I rs ⟨O, ρ, st, as, c, S, ra, e, k⟩
  cases as with
  | nil => simp [biP] at e
  | cons a as =>
    cases as with
    | cons b as =>
      cases as with
      | cons d as => cases a <;> simp [biP] at e
      | nil =>
        obtain ⟨x, y, rfl, h1, h2⟩ := RdPs.two (C := C) ra
        cases a with
        | int i =>
          cases b with
          | int j => cases e; exact L2.call_max2 hc pins s σ H _ us Q I rs ⟨i, j, by rw [h1.int, h2.int], k _ _ .rfl S (.int _)⟩
          | _ => simp [biP] at e
        | _ => simp [biP] at e
    | nil =>
      obtain ⟨x, rfl, h⟩ := RdPs.one (C := C) ra
      cases a with
      | list ds =>
        simp only [biP] at e
        split at e
        · rename_i m r q
          cases e
          obtain ⟨a, vs, rfl, l, rr⟩ := h.list
          obtain ⟨e1, e2⟩ := rr.ints q
          refine L2.cr_max hc pins s σ H _ us Q I rs ⟨a, m :: r, rfl, e2 ▸ l.sq, by simp, fun M hM hle => ?_⟩
          obtain ⟨g1, g2⟩ := maxI_mem r m
          have : M = maxI m r := Int.le_antisymm (g2 M hM) (hle _ g1)
          rw [this]
          exact k _ _ .rfl S (.int _)
        · cases ds with
          | nil => simp [mxP] at e
          | cons z r =>
            simp only [mxP] at e
            split at e
            · rename_i hok
              cases e
              obtain ⟨o1, o2⟩ := okMx_al hok
              obtain ⟨a, vs, rfl, l, rr⟩ := h.list
              obtain ⟨its, rv, hl, hz⟩ := I.list l.sq
              obtain ⟨u, rfl, ru⟩ := L2.vals1 rs
              cases ru
              obtain ⟨as, ra⟩ := reqs_read I rr rv
              exact W.max_list_data (I.ok.hd hc) hl.isList ra o1 (by omega) fun i v h' tk bs hv r hk => mx_fin I rr rv hv r hk fun w hw => k _ _ .rfl S hw
            · cases e
      | tuple ds =>
        simp only [biP] at e
        cases ds with
        | nil => simp [mxP] at e
        | cons z r =>
          simp only [mxP] at e
          split at e
          · rename_i hok
            cases e
            obtain ⟨o1, o2⟩ := okMx_al hok
            obtain ⟨a, vs, rfl, l, rr⟩ := h.tup
            obtain ⟨its, rv, hl, _⟩ := I.tuple l
            obtain ⟨u, rfl, ru⟩ := L2.vals1 rs
            cases ru
            obtain ⟨as, ra⟩ := reqs_read I rr rv
            exact W.max_tuple_data (I.ok.hd hc) hl ra o1 (by omega) fun i v h' tk bs hv r hk => mx_fin I rr rv hv r hk fun w hw => k _ _ .rfl S hw
          · cases e
      | _ => simp [biP] at e
theorem bMin (hc : C.calm = true) (hu : C.A.units + 65 < cLine) : BiR C .min (.builtin "min") := by
  intro pins s σ H xs us Q I rs ⟨O, ρ, st, as, c, S, ra, e, k⟩
  cases as with
  | nil => simp [biP] at e
  | cons a as =>
    cases as with
    | cons b as =>
      cases as with
      | cons d as => cases a <;> simp [biP] at e
      | nil =>
        obtain ⟨x, y, rfl, h1, h2⟩ := RdPs.two (C := C) ra
        cases a with
        | int i =>
          cases b with
          | int j => cases e; exact L2.call_min2 hc pins s σ H _ us Q I rs ⟨i, j, by rw [h1.int, h2.int], k _ _ .rfl S (.int _)⟩
          | _ => simp [biP] at e
        | _ => simp [biP] at e
    | nil =>
      obtain ⟨x, rfl, h⟩ := RdPs.one (C := C) ra
      cases a with
      | list ds =>
        simp only [biP] at e
        split at e
        · rename_i m r q
          cases e
          obtain ⟨a, vs, rfl, l, rr⟩ := h.list
          obtain ⟨e1, e2⟩ := rr.ints q
          refine L2.cr_min hc pins s σ H _ us Q I rs ⟨a, m :: r, rfl, e2 ▸ l.sq, by simp, fun M hM hle => ?_⟩
          obtain ⟨g1, g2⟩ := minI_mem r m
          have : M = minI m r := Int.le_antisymm (hle _ g1) (g2 M hM)
          rw [this]
          exact k _ _ .rfl S (.int _)
        · cases ds with
          | nil => simp [mxP] at e
          | cons z r =>
            simp only [mxP] at e
            split at e
            · rename_i hok
              cases e
              obtain ⟨o1, o2⟩ := okMx_al hok
              obtain ⟨a, vs, rfl, l, rr⟩ := h.list
              obtain ⟨its, rv, hl, hz⟩ := I.list l.sq
              obtain ⟨u, rfl, ru⟩ := L2.vals1 rs
              cases ru
              obtain ⟨as, ra⟩ := reqs_read I rr rv
              exact W.min_list_data (I.ok.hd hc) hl.isList ra o1 (by omega) fun i v h' tk bs hv r hk => mx_fin I rr rv hv r hk fun w hw => k _ _ .rfl S hw
            · cases e
      | tuple ds =>
        simp only [biP] at e
        cases ds with
        | nil => simp [mxP] at e
        | cons z r =>
          simp only [mxP] at e
          split at e
          · rename_i hok
            cases e
            obtain ⟨o1, o2⟩ := okMx_al hok
            obtain ⟨a, vs, rfl, l, rr⟩ := h.tup
            obtain ⟨its, rv, hl, _⟩ := I.tuple l
            obtain ⟨u, rfl, ru⟩ := L2.vals1 rs
            cases ru
            obtain ⟨as, ra⟩ := reqs_read I rr rv
            exact W.min_tuple_data (I.ok.hd hc) hl ra o1 (by omega) fun i v h' tk bs hv r hk => mx_fin I rr rv hv r hk fun w hw => k _ _ .rfl S hw
          · cases e
      | _ => simp [biP] at e
end
end Mi
end
section
set_option Elab.async false
set_option linter.all false
set_option maxRecDepth 100000
set_option maxHeartbeats 1000000
/-! M5: sum, all, any, tuple, list, sorted, isinstance, subscripts, slices, by data. -/
namespace Mi
open PySem
section sT
open PySem.Calls PyProof.Rows PySem.W
section
variable {prog : Program} {w : World} {A : Around} {E : Value → Shared → Prop} {s : Shared} {β : Type} {vs : List Value} {bs : List β} {enc : β → PyData} {R : Value → β → Prop}
theorem sortedT_data {l : Addr} {Q : Value → Shared → Prop} (hl : s.heap.IsTuple l vs.toArray) (e : EachIs R vs bs) (er : EachIs (fun v b => ∃ as, Reads s.heap v (enc b) as) vs bs) (hal : AllAlike (bs.map enc)) (hk : Sortable (bs.map enc)) (hL : bs.length ≤ sizeLine)
    (hu : ∀ b, b ∈ bs → A.units + 2 + (enc b).depth < cLine)
    (h : ∀ (h1 h' : Heap) (p : Addr) (out : List Value) (c : Nat), (∀ b o, s.heap.get? b = some o → h1.get? b = some o) → (∀ b o, h1.get? b = some o → h'.get? b = some o) → h1.objs.size ≤ p → h'.get? p = some (seqObj "list" out.toArray c) → out.length = bs.length → EachIs R out (bs.mergeSort (dataLe false enc)) → Q (.ref p) { s with heap := h' }) :
    wpAny (model prog w) A (call (.builtin "sorted") [.ref l]) Q E s := by
  obtain ⟨o, ho, hc, n, hd⟩ := hl
  have hlen : vs.length = bs.length := e.length
  refine Calls.call_function_entry kind_sorted plain_sorted entry_sorted (args_sorted1 _) ?_
  unfold Builtin.«sorted»
  refine wpAny_bind (m := checkCount "sorted" 1 1 _) (wpAny_pure ?_)
  refine wpAny_bind (wpAny_collect_seq l (.inr rfl) ho hc hd (fun h' hkp => ?_) (by show vs.length ≤ _; omega))
  refine wpAny_bind (wpAny_newList ?_ (by show vs.length ≤ _; omega))
  have hoL : (h'.push (seqObj "list" vs.toArray 0)).get? h'.objs.size = some (seqObj "list" vs.toArray 0) := Heap.get?_push_size _ rfl
  have hkp1 : ∀ b o, s.heap.get? b = some o → (h'.push (seqObj "list" vs.toArray 0)).get? b = some o := fun b o q => Heap.get?_push_of_some _ (hkp b o q)
  have hsz : ∀ b o, s.heap.get? b = some o → b < h'.objs.size := fun b o q => Heap.lt_size (hkp b o q)
  have er' : EachIs (fun v b => ∃ as, Reads (sortingHeap (h'.push (seqObj "list" vs.toArray 0)) h'.objs.size vs) v (enc b) as) vs bs := er.mono fun _ _ ⟨as, r⟩ => ⟨as, PyProof.Rows.Reads.keeps (fun b o q => sortingHeap_old (Nat.ne_of_lt (hsz b o q)) (hkp1 b o q)) r⟩
  have S : SortsAt prog w A.in1.in1 { s with heap := sortingHeap (h'.push (seqObj "list" vs.toArray 0)) h'.objs.size vs } (dataKind (sortingHeap (h'.push (seqObj "list" vs.toArray 0)) h'.objs.size vs) (bs.map enc)) vs :=
    SortsAt.data (s := { s with heap := sortingHeap (h'.push (seqObj "list" vs.toArray 0)) h'.objs.size vs }) (each_map (R := fun v d => ∃ as, Reads (sortingHeap (h'.push (seqObj "list" vs.toArray 0)) h'.objs.size vs) v d as) enc er') hal hk (bound_map hu)
  refine wpAny_bind (wpAny_holding (wpAny_call_entry slot_list_sort ⟨_, hoL, rfl⟩ entry_list_sort (list_sort_vals (s := { s with heap := h'.push (seqObj "list" vs.toArray 0) }) hoL S (by omega) ⟨_, rfl, ?_⟩) (args_list_sort _)))
  obtain ⟨c, hc⟩ := sortedHeap_at (vs := vs) (out := (sortVals (dataKind (sortingHeap (h'.push (seqObj "list" vs.toArray 0)) h'.objs.size vs) (bs.map enc)) false vs vs).toArray) hoL
  refine wpAny_pure ⟨_, rfl, h h' _ h'.objs.size _ c hkp (fun b o q => ?_) (Nat.le_refl _) hc (by rw [sortVals_length false rfl]; exact hlen) (sortVals_data false e er' hal)⟩
  rw [sortedHeap_old (Nat.ne_of_lt (Heap.lt_size q)) (by rw [size_push']; exact Nat.lt_succ_of_lt (Heap.lt_size q))]
  exact Heap.get?_push_of_some _ q
end
end sT
open L2 (V HO Hp upd upd_same upd_ne SqL SqT Rd Cx Inv PE PT PA PS PSs PG PGs PI TE TT TA TS TG VK Ends RelV Vals ne_of_none OpR R2 EP CallR UnR IxR SlR TruR Dp TyX TyOf)
section
variable {C : Cx} {pins : List (Addr × Obj)} {s : Shared} {σ : Sg} {H : Hp}
theorem bAll (hc : C.calm = true) : BiR C .all (.builtin "all") := by
  intro pins s σ H xs us Q I rs ⟨O, ρ, st, as, c, S, ra, e, k⟩
  cases as with
  | nil => simp [biP] at e
  | cons a as =>
    cases as with
    | cons b as => cases a <;> simp [biP] at e
    | nil =>
      obtain ⟨x, rfl, h⟩ := RdPs.one (C := C) ra
      cases a with
      | list ds =>
        simp only [biP, Option.map_eq_some_iff] at e
        obtain ⟨bs, q, rfl⟩ := e
        obtain ⟨a, vs, rfl, l, rr⟩ := h.list
        obtain ⟨e1, e2⟩ := rr.bools q
        exact L2.cr_all hc pins s σ H _ us Q I rs ⟨a, bs, rfl, e2 ▸ l.sq, k _ _ .rfl S (.bl _)⟩
      | _ => simp [biP] at e
theorem bAny (hc : C.calm = true) : BiR C .any (.builtin "any") := by
  intro pins s σ H xs us Q I rs ⟨O, ρ, st, as, c, S, ra, e, k⟩
  cases as with
  | nil => simp [biP] at e
  | cons a as =>
    cases as with
    | cons b as => cases a <;> simp [biP] at e
    | nil =>
      obtain ⟨x, rfl, h⟩ := RdPs.one (C := C) ra
      cases a with
      | list ds =>
        simp only [biP, Option.map_eq_some_iff] at e
        obtain ⟨bs, q, rfl⟩ := e
        obtain ⟨a, vs, rfl, l, rr⟩ := h.list
        obtain ⟨e1, e2⟩ := rr.bools q
        exact L2.cr_any hc pins s σ H _ us Q I rs ⟨a, bs, rfl, e2 ▸ l.sq, k _ _ .rfl S (.bl _)⟩
      | _ => simp [biP] at e
open PyProof.Rows in
theorem sumT_raw {prog : Program} {w : World} {A : Around} {E : Value → Shared → Prop} {s : Shared} {l : Addr} {its : List Value} {ns : List Int} {Q : Value → Shared → Prop} (hh : A.handled = none) (hl : s.heap.IsTuple l its.toArray) (hi : IntsAre its ns)
    (h : ∀ h' tk t', (∀ b o, s.heap.get? b = some o → h'.get? b = some o) → Q (.int ns.sum t') { s with heap := h', toks := tk }) : wpAny (model prog w) A (call (.builtin "sum") [.ref l]) Q E s := by
  obtain ⟨xs, hx⟩ := hi.allInts.items
  have hn : numsOf its.toArray.toList = ns := by rw [show its.toArray.toList = its from rfl, hi.numsOf]
  rw [hx] at hl hn
  rw [nums_intItems] at hn
  refine PySem.W.ktm_sumG hh hl fun h' tk t' hk => ?_
  have := h h' tk t' hk
  rw [preSum_eq, List.take_of_length_le (by simp), hn]
  exact this
theorem bSum (hc : C.calm = true) : BiR C .sum (.builtin "sum") := by
  intro pins s σ H xs us Q I rs ⟨O, ρ, st, as, c, S, ra, e, k⟩
  cases as with
  | nil => simp [biP] at e
  | cons a as =>
    cases as with
    | cons b as => cases a <;> simp [biP] at e
    | nil =>
      obtain ⟨x, rfl, h⟩ := RdPs.one (C := C) ra
      cases a with
      | list ds =>
        simp only [biP, Option.map_eq_some_iff] at e
        obtain ⟨ns, q, rfl⟩ := e
        obtain ⟨a, vs, rfl, l, rr⟩ := h.list
        obtain ⟨e1, e2⟩ := rr.ints q
        exact L2.cr_sum hc pins s σ H _ us Q I rs ⟨a, ns, rfl, e2 ▸ l.sq, k _ _ .rfl S (.int _)⟩
      | tuple ds =>
        simp only [biP, Option.map_eq_some_iff] at e
        obtain ⟨ns, q, rfl⟩ := e
        obtain ⟨a, vs, rfl, l, rr⟩ := h.tup
        obtain ⟨e1, e2⟩ := rr.ints q
        subst e2
        obtain ⟨its, rv, hl, _⟩ := I.tuple l
        rw [L2.Vals.ref1 rs]
        exact sumT_raw (I.ok.hd hc) hl rv.ints fun h' tk t' hk => ⟨.int _, H, I.kept hk, ⟨_, rfl⟩, k _ _ .rfl S (.int _)⟩
      | _ => simp [biP] at e
theorem bTuple : BiR C .tuple (.type "tuple") := by
  intro pins s σ H xs us Q I rs ⟨O, ρ, st, as, c, S, ra, e, k⟩
  cases as with
  | nil => simp [biP] at e
  | cons a as =>
    cases as with
    | cons b as => cases a <;> simp [biP] at e
    | nil =>
      obtain ⟨x, rfl, h⟩ := RdPs.one (C := C) ra
      cases a with
      | list ds =>
        cases e
        obtain ⟨a, vs, rfl, l, rr⟩ := h.list
        exact L2.call_tuple_of pins s σ H _ us Q I rs ⟨a, vs, rfl, .inl ⟨l.sq, fun p hp => k _ _ (Stp.new S hp) (S.new hp) (rep_newT S hp rr)⟩⟩
      | tuple ds =>
        cases e
        obtain ⟨a, vs, rfl, l, rr⟩ := h.tup
        exact L2.call_tuple_of pins s σ H _ us Q I rs ⟨a, vs, rfl, .inr ⟨l, k _ _ .rfl S (.tup l rr)⟩⟩
      | _ => simp [biP] at e
theorem bList : BiR C .list (.type "list") := by
  intro pins s σ H xs us Q I rs ⟨O, ρ, st, as, c, S, ra, e, k⟩
  cases as with
  | nil => simp [biP] at e
  | cons a as =>
    cases as with
    | cons b as => cases a <;> simp [biP] at e
    | nil =>
      obtain ⟨x, rfl, h⟩ := RdPs.one (C := C) ra
      cases a with
      | list ds =>
        cases e
        obtain ⟨a, vs, rfl, l, rr⟩ := h.list
        exact L2.call_list_of pins s σ H _ us Q I rs ⟨a, vs, rfl, .inl l.sq, fun p hp => k _ _ (Stp.new S hp) (S.new hp) (rep_newL S hp rr)⟩
      | tuple ds =>
        cases e
        obtain ⟨a, vs, rfl, l, rr⟩ := h.tup
        exact L2.call_list_of pins s σ H _ us Q I rs ⟨a, vs, rfl, .inr l, fun p hp => k _ _ (Stp.new S hp) (S.new hp) (rep_newL S hp rr)⟩
      | _ => simp [biP] at e
/-! sorted -/
theorem each_of {α β γ : Type} {R : α → β → Prop} {T : α → γ → Prop} (f : γ → β) (h : ∀ a c, T a c → R a (f c)) : ∀ {as : List α} {cs : List γ}, W.EachIs T as cs → W.EachIs R as (cs.map f)
  | _, _, .nil => .nil
  | _, _, .cons q r => .cons (h _ _ q) (each_of f h r)
def prs : List P → List V → List (P × V)
  | d :: ds, v :: vs => (d, v) :: prs ds vs
  | _, _ => []
section
variable {K : Fg} {m : Addr → Prop}
theorem prs_fst : ∀ {ds : List P} {vs : List V}, ReqP K m H ds vs → (prs ds vs).map (·.1) = ds
  | _, _, .nil => rfl
  | _, _, .cons _ r => by simp [prs, prs_fst r]
theorem prs_snd : ∀ {ds : List P} {vs : List V}, ReqP K m H ds vs → (prs ds vs).map (·.2) = vs
  | _, _, .nil => rfl
  | _, _, .cons _ r => by simp [prs, prs_snd r]
theorem prs_mem : ∀ {ds : List P} {vs : List V}, ReqP K m H ds vs → ∀ p ∈ prs ds vs, RepP K m H p.1 p.2 ∧ p.1 ∈ ds
  | _, _, .nil => fun p h => by simp [prs] at h
  | _, _, .cons h r => fun p hp => by
    simp only [prs, List.mem_cons] at hp
    rcases hp with rfl | hp
    · exact ⟨h, List.mem_cons_self⟩
    · have := prs_mem r p hp
      exact ⟨this.1, List.mem_cons_of_mem _ this.2⟩
theorem prs_req : ∀ (l : List (P × V)), (∀ p ∈ l, RepP K m H p.1 p.2) → ReqP K m H (l.map (·.1)) (l.map (·.2))
  | [], _ => .nil
  | p :: l, h => .cons (h p List.mem_cons_self) (prs_req l fun q hq => h q (List.mem_cons_of_mem _ hq))
theorem prs_vals : ∀ {ds : List P} {vs : List V} {us : List Value}, ReqP K m H ds vs → Vals vs us → W.EachIs (fun (v : Value) (p : P × V) => RelV p.2 v) us (prs ds vs)
  | _, _, _, .nil, .nil => .nil
  | _, _, _, .cons _ r, .cons q t => .cons q (prs_vals r t)
end
theorem prs_reads (I : Inv C pins σ H s) {m : Addr → Prop} : ∀ {ds : List P} {vs : List V} {us : List Value}, ReqP C.K m H ds vs → Vals vs us → W.EachIs (fun (v : Value) (p : P × V) => ∃ as, Reads s.heap v p.1 as) us (prs ds vs)
  | _, _, _, .nil, .nil => .nil
  | _, _, _, .cons h r, .cons q t => .cons (Dp.reads I _ _ _ h.dp q) (prs_reads I r t)
theorem each_vals : ∀ {us : List Value} {ps : List (P × V)}, W.EachIs (fun (v : Value) (p : P × V) => RelV p.2 v) us ps → Vals (ps.map (·.2)) us
  | _, _, .nil => .nil
  | _, _, .cons q r => .cons q (each_vals r)
theorem okSort_al {ds : List P} (h : okSort ds = true) : W.AllAlike ds ∧ W.Sortable ds ∧ ∀ d ∈ ds, d.depth ≤ 50 := by
  unfold okSort at h
  rw [Bool.and_eq_true, Bool.and_eq_true] at h
  obtain ⟨⟨h1, h2⟩, h3⟩ := h
  refine ⟨fun d hd d' hd' => List.all_eq_true.mp (List.all_eq_true.mp h1 d hd) d' hd', ?_, fun d hd => of_decide_eq_true (List.all_eq_true.mp h3 d hd)⟩
  rw [Bool.or_eq_true] at h2
  rcases h2 with h2 | h2
  · refine .inl fun d hd => ?_
    have := List.all_eq_true.mp h2 d hd
    unfold isTup1 at this
    split at this
    · exact ⟨_, _, rfl⟩
    · cases this
  · refine .inr fun d hd => ?_
    have := List.all_eq_true.mp h2 d hd
    unfold noTup at this
    split at this
    · cases this
    · cases this
    · rename_i q1 q2
      exact ⟨fun z => q2 z, fun xs z => q1 xs z⟩
theorem bSorted (hu : C.A.units + 65 < cLine) : BiR C .sorted (.builtin "sorted") := by
  intro pins s σ H xs us Q I rs ⟨O, ρ, st, as, c, S, ra, e, k⟩
  cases as with
  | nil => simp [biP] at e
  | cons a as =>
    cases as with
    | cons b as => cases a <;> simp [biP] at e
    | nil =>
      obtain ⟨x, rfl, h⟩ := RdPs.one (C := C) ra
      cases a with
      | list ds =>
        simp only [biP] at e
        split at e
        · rename_i hok
          cases e
          obtain ⟨o1, o2, o3⟩ := okSort_al hok
          obtain ⟨a, vs, rfl, l, rr⟩ := h.list
          obtain ⟨its, rv, hl, hz⟩ := I.list l.sq
          obtain ⟨u, rfl, ru⟩ := L2.vals1 rs
          cases ru
          have ef := prs_fst rr
          have lp : (prs ds vs).length = ds.length := by have := congrArg List.length ef; simpa using this
          refine PySem.W.sorted_data (enc := Prod.fst) hl.isList (prs_vals rr rv) (prs_reads I rr rv) (by rw [ef]; exact o1) (by rw [ef]; exact o2) (by rw [lp, rr.len]; exact hz) (fun b hb => ?_) fun out ho eo => ?_
          · have := o3 b.1 (prs_mem rr b hb).2
            omega
          · obtain ⟨ep, he'⟩ := PyProof.Rows.sortedAll_at s.heap its out.toArray
            have ev := each_vals eo
            have em : ((prs ds vs).mergeSort (W.dataLe false Prod.fst)).map (·.1) = sortP ds := by
              unfold sortP
              have := List.map_mergeSort (r := W.dataLe false (Prod.fst : P × V → P)) (s := W.dataLe false (id : P → P)) (f := Prod.fst) (l := prs ds vs) fun a _ b _ => rfl
              rw [show (prs ds vs).map Prod.fst = ds from ef] at this
              exact this
            have hlen : (((prs ds vs).mergeSort (W.dataLe false Prod.fst)).map (·.2)).length ≤ sizeLine := by
              rw [List.length_map, List.length_mergeSort, lp, rr.len]
              exact hz
            have hp : H (s.heap.objs.size + 1) = none := I.hok.fresh (Nat.le_succ _)
            refine ⟨.ref _, upd H (s.heap.objs.size + 1) (.lst (((prs ds vs).mergeSort (W.dataLe false Prod.fst)).map (·.2))), I.laid (t' := s.toks) (fun _ _ => PyProof.Rows.sortedAll_old) (Nat.le_succ _) ⟨hlen, out, ep, ev, he'⟩, rfl, ?_⟩
            refine k _ _ (Stp.new S hp) (S.new hp) (rep_newL S hp ?_)
            rw [← em]
            exact prs_req _ fun p hm => (prs_mem rr p (List.mem_mergeSort.mp hm)).1
        · cases e
      | tuple ds =>
        simp only [biP] at e
        split at e
        · rename_i hok
          cases e
          obtain ⟨o1, o2, o3⟩ := okSort_al hok
          obtain ⟨a, vs, rfl, l, rr⟩ := h.tup
          obtain ⟨its, rv, hl, hz⟩ := I.tuple l
          obtain ⟨u, rfl, ru⟩ := L2.vals1 rs
          cases ru
          have ef := prs_fst rr
          have lp : (prs ds vs).length = ds.length := by have := congrArg List.length ef; simpa using this
          refine sortedT_data (enc := Prod.fst) hl (prs_vals rr rv) (prs_reads I rr rv) (by rw [ef]; exact o1) (by rw [ef]; exact o2) (by rw [lp, rr.len]; exact hz) (fun b hb => ?_) fun h1 h2 p out c k1 k2 hp hg ho eo => ?_
          · have := o3 b.1 (prs_mem rr b hb).2
            omega
          · have ev := each_vals eo
            have em : ((prs ds vs).mergeSort (W.dataLe false Prod.fst)).map (·.1) = sortP ds := by
              unfold sortP
              have := List.map_mergeSort (r := W.dataLe false (Prod.fst : P × V → P)) (s := W.dataLe false (id : P → P)) (f := Prod.fst) (l := prs ds vs) fun a _ b _ => rfl
              rw [show (prs ds vs).map Prod.fst = ds from ef] at this
              exact this
            have hlen : (((prs ds vs).mergeSort (W.dataLe false Prod.fst)).map (·.2)).length ≤ sizeLine := by
              rw [List.length_map, List.length_mergeSort, lp, rr.len]
              exact hz
            have I1 : Inv C pins σ H { s with heap := h1, toks := s.toks } := I.kept k1
            have hn : H p = none := I1.hok.fresh hp
            refine ⟨.ref _, upd H p (.lst (((prs ds vs).mergeSort (W.dataLe false Prod.fst)).map (·.2))), I1.laid (t' := s.toks) k2 hp ⟨hlen, out, c, ev, hg⟩, rfl, ?_⟩
            refine k _ _ (Stp.new S hn) (S.new hn) (rep_newL S hn ?_)
            rw [← em]
            exact prs_req _ fun p hm => (prs_mem rr p (List.mem_mergeSort.mp hm)).1
        · cases e
      | _ => simp [biP] at e
end
end Mi
end
section
set_option Elab.async false
set_option linter.all false
set_option maxRecDepth 100000
set_option maxHeartbeats 1000000
/-! M6: isinstance, subscripts, slices, by data. -/
namespace Mi
open PySem
open L2 (V HO Hp upd upd_same upd_ne SqL SqT Rd Cx Inv PE PT PA PS PSs PG PGs PI TE TT TA TS TG VK Ends RelV Vals ne_of_none OpR R2 EP CallR UnR IxR SlR TruR Dp TyX TyOf)
section
variable {C : Cx} {pins : List (Addr × Obj)} {s : Shared} {σ : Sg} {H : Hp}
def tgN : Tg → String
  | .n => "NoneType"
  | .b => "bool"
  | .i => "int"
  | .s => "str"
  | .l => "list"
  | .t => "tuple"
  | .d => "dict"
def tyOf (x : P) : String := tgN (tgOf x)
theorem rd_ty {K : Fg} {m : Addr → Prop} {x : P} {v : V} (h : RdP K m H x v) : TyX K H v (.type (tyOf x)) := by
  cases x with
  | none => cases h.non; exact .base .non
  | bool b => cases h.bl; exact .base (.bl _)
  | int i => cases h.int; exact .base (.int _)
  | str y => cases h.str; exact .base (.str _)
  | list ds =>
    obtain ⟨a, vs, rfl, l, r⟩ := h.list
    rcases l with (l | ⟨o, l⟩) | ⟨its, n, l, _⟩
    · exact .base (.lst l)
    · exact .base (.frz l)
    · exact .kList l rfl
  | tuple ds =>
    obtain ⟨a, vs, rfl, l, r⟩ := h.tup
    rcases l with (l | ⟨o, l⟩) | ⟨o, its, n, l, l2, _⟩
    · exact .base (.tup l)
    · exact .fTuple l
    · exact .kTuple l l2
  | dict kvs => exact h.dict.elim
def tyN (ty : Str) : String := if ty = "int" then "int" else if ty = "bool" then "bool" else if ty = "str" then "str" else if ty = "tuple" then "tuple" else if ty = "list" then "list" else "dict"
def okTy (ty : Str) : Bool := ty == "int" || ty == "bool" || ty == "str" || ty == "tuple" || ty == "list" || ty == "dict"
theorem ty_kit {ty : Str} (hk : okTy ty = true) {x : P} {b : Bool} (e : tyP ty x = some b) : L2.kitB (tyOf x) (tyN ty) = some b := by
  unfold okTy at hk
  unfold tyP at e
  unfold tyOf
  generalize tgOf x = g at e ⊢
  simp only [Bool.or_eq_true, beq_iff_eq] at hk
  rcases hk with ((((rfl | rfl) | rfl) | rfl) | rfl) | rfl <;> cases g <;> cases b <;> (first
    | (exfalso; revert e; exact (by decide))
    | decide +kernel)
theorem ty_boot {ty : Str} (hk : okTy ty = true) : bootBuiltins ty = some (.type (tyN ty)) := by
  unfold okTy at hk
  simp only [Bool.or_eq_true, beq_iff_eq] at hk
  rcases hk with ((((rfl | rfl) | rfl) | rfl) | rfl) | rfl <;> decide +kernel
/-- isinstance(x, a class of the built-in ones) -/
theorem bIsi {ty : Str} (hk : okTy ty = true) {us : List Value} {Q : VK} (I : Inv C pins σ H s) {m : Addr → Prop} {x : P} {v : V} {b : Bool} (h : RdP C.K m H x v) (e : tyP ty x = some b) (r : Vals [v, .ty (tyN ty)] us) (q : Q (.bl b) H) :
    wpAny (model C.prog C.w) C.A (call (.builtin "isinstance") us) (EP C pins σ Q) C.xe s :=
  L2.call_isi pins s σ H _ us Q I r ⟨v, .ty (tyN ty), .type (tyOf x), .type (tyN ty), b, rfl, .ty _, rd_ty h, L2.kit_ty (ty_kit hk e), q⟩
/-! ### subscripts -/
/-- values in (a thing subscripted, its index), a value out; the store stays -/
def rX (K : Fg) (f : Vl → Vl → Sr → Option Vl) : R2 := fun x y H Q => ∃ (O : Addr → Prop) (ρ : Nat → Addr) (st : Sr) (a b c : Vl), RelS K O ρ H st ∧ Rep K O ρ st H a x ∧ Rep K O ρ st H b y ∧ f a b st = some c ∧
  ∀ v, Rep K O ρ st H c v → Q v H
def ixO (o i : Vl) (s : Sr) : Option Vl := match ixV o i s with
  | .ok v _ => some v
  | _ => none
theorem ixO_ok {o i v : Vl} {s s' : Sr} (h : ixV o i s = .ok v s') : ixO o i s = some v ∧ s' = s := by
  refine ⟨by unfold ixO; rw [h], ?_⟩
  unfold ixV at h
  split at h
  · split at h
    · unfold R.of at h
      split at h
      · cases h; rfl
      · cases h
    · split at h
      · unfold R.of at h
        split at h
        · cases h; rfl
        · cases h
      · unfold R.of at h
        split at h
        · cases h; rfl
        · cases h
      · cases h
  · cases h
theorem ixV_ex {o i : Vl} {s s' : Sr} {c : Nat} {x : P} : ixV o i s ≠ .ex c x s' := by
  intro h
  unfold ixV at h
  split at h
  · split at h
    · unfold R.of at h
      split at h <;> cases h
    · split at h
      · unfold R.of at h
        split at h <;> cases h
      · unfold R.of at h
        split at h <;> cases h
      · cases h
  · cases h
theorem atI_some {α : Type} {xs : List α} {i : Int} {x : α} (h : L2.atI xs i = some x) : ∃ j : Nat, xs[j]? = some x ∧ ∀ {β : Type} (ys : List β), ys.length = xs.length → L2.atI ys i = ys[j]? := by
  unfold L2.atI at h ⊢
  cases q : L2.ixN xs.length i with
  | none => rw [q] at h; cases h
  | some j =>
    rw [q] at h
    exact ⟨j, h, fun ys hy => by rw [hy, q]; rfl⟩
theorem opIx : IxR C (rX C.K ixO) := by
  intro value slice pins s σ H x y v u Q I rx ry ⟨O, ρ, st, o, i, w, S, ra, rb, e, k⟩ hs
  unfold ixO at e
  split at e
  · rename_i w' s' q
    cases e
    unfold ixV at q
    split at q
    · rename_i j hj
      have hi := (dd_rd S rb hj).int
      subst hi
      split at q
      · rename_i x'
        cases x' with
        | list ds =>
          simp only [ixP] at q
          cases hx : L2.atI ds j with
          | none => rw [hx] at q; cases q
          | some d =>
            rw [hx] at q
            cases q
            obtain ⟨a, vs, rfl, l, r⟩ := RepP.lst_inv ra
            obtain ⟨n, h1, h2⟩ := atI_some hx
            obtain ⟨z, h3, h4⟩ := r.get h1
            exact L2.ix_seq value slice pins s σ H _ _ v u Q I rx ry (.inl ⟨a, vs, j, z, rfl, rfl, l.sq, by rw [h2 vs r.len.symm, h3], k z h4⟩) hs
        | tuple ds =>
          simp only [ixP] at q
          cases hx : L2.atI ds j with
          | none => rw [hx] at q; cases q
          | some d =>
            rw [hx] at q
            cases q
            obtain ⟨a, vs, rfl, l, r⟩ := RepP.tup_inv ra
            obtain ⟨n, h1, h2⟩ := atI_some hx
            obtain ⟨z, h3, h4⟩ := r.get h1
            exact L2.ix_seq value slice pins s σ H _ _ v u Q I rx ry (.inr (.inl ⟨a, vs, j, z, rfl, rfl, l, by rw [h2 vs r.len.symm, h3], k z h4⟩)) hs
        | str z =>
          simp only [ixP] at q
          split at q
          · rename_i hz
            cases hx : L2.atI z.cps.toList j with
            | none => rw [hx] at q; cases q
            | some d =>
              rw [hx] at q
              cases q
              have hx' := RepP.str_inv ra
              subst hx'
              exact L2.ix_seq value slice pins s σ H _ _ v u Q I rx ry (.inr (.inr ⟨z, j, d, rfl, rfl, lim_line hz, hx, k _ (RepP.str _)⟩)) hs
          · cases q
        | _ => simp [ixP, R.of] at q
      · rename_i n
        obtain ⟨hn, rfl⟩ := ra
        split at q
        · rename_i z xs hst
          cases hx : L2.atI xs j with
          | none => rw [hx] at q; cases q
          | some d =>
            rw [hx] at q
            cases q
            obtain ⟨h, e1, vs, rfl, r⟩ := S.ob n _ hst
            obtain ⟨n', h1, h2⟩ := atI_some hx
            obtain ⟨z, h3, h4⟩ := r.get h1
            exact L2.ix_seq value slice pins s σ H _ _ v u Q I rx ry (.inl ⟨_, vs, j, z, rfl, rfl, .of e1, by rw [h2 vs r.len.symm, h3], k z h4⟩) hs
        · rename_i xs hst
          cases hx : L2.atI xs j with
          | none => rw [hx] at q; cases q
          | some d =>
            rw [hx] at q
            cases q
            obtain ⟨h, e1, rfl, r⟩ := S.ob n _ hst
            obtain ⟨n', h1, h2⟩ := atI_some hx
            refine L2.ix_seq value slice pins s σ H _ _ v u Q I rx ry (.inl ⟨_, _, j, .ref (ρ d), rfl, rfl, .of e1, by rw [h2 (xs.map fun n => V.ref (ρ n)) (by simp)]; simp [h1], k _ ⟨?_, rfl⟩⟩) hs
            exact r d (List.mem_of_getElem? h1)
        · cases q
    · cases q
  · cases e
/-! ### slices -/
def rSl (K : Fg) : V → Option Int → Option Int → Hp → VK → Prop := fun x lo hi H Q => ∃ (O : Addr → Prop) (ρ : Nat → Addr) (st : Sr) (a c : P), RelS K O ρ H st ∧ RdP K (Mt O ρ st) H a x ∧ slP a lo hi = some c ∧
  ∀ H' v, Stp ρ st H ρ st H' → RelS K O ρ H' st → RepP K (Mt O ρ st) H' c v → Q v H'
theorem ReqP.cutR {K : Fg} {m : Addr → Prop} {ds : List P} {vs : List V} (r : ReqP K m H ds vs) (lo hi : Option Int) : ReqP K m H (cut ds lo hi) (L2.cutV vs lo hi) := by
  unfold cut L2.cutV
  rw [r.len]
  exact (r.drop _).take _
theorem opSl : SlR C (rSl C.K) := by
  intro pins s σ H x v vl vu lo hi sl Q I rx hs pl pu ⟨O, ρ, st, a, c, S, ra, e, k⟩
  cases a with
  | list ds =>
    cases e
    obtain ⟨a, vs, rfl, l, r⟩ := ra.list
    exact L2.sl_list pins s σ H _ v vl vu lo hi sl Q I rx hs pl pu ⟨a, vs, rfl, l.sq, fun p hp => k _ _ (Stp.new S hp) (S.new hp) (rep_newL S hp (r.cutR lo hi))⟩
  | tuple ds =>
    cases e
    obtain ⟨a, vs, rfl, l, r⟩ := ra.tup
    refine L2.sl_tupA pins s σ H _ v vl vu lo hi sl Q I rx hs pl pu ⟨a, vs, rfl, l, fun hw => ?_, fun _ p hp => k _ _ (Stp.new S hp) (S.new hp) (rep_newT S hp (r.cutR lo hi))⟩
    have e : cut ds lo hi = ds := by
      unfold cut
      rw [r.len, hw.1, hw.2, List.drop_zero, Nat.sub_zero]
      exact List.take_of_length_le (by rw [r.len]; exact Nat.le_refl _)
    rw [e] at k
    exact k _ _ .rfl S (.tup l r)
  | _ => cases e
end
end Mi
end
section
set_option Elab.async false
set_option linter.all false
set_option maxRecDepth 100000
set_option maxHeartbeats 1000000
/-! M7: ends, readings. -/
namespace Mi
open PySem
open L2 (V HO Hp upd upd_same upd_ne SqL SqT Rd Cx Inv PE PT PA PS PSs PG PGs PI TE TT TA TS TG TGs TI It VK XK Ends RelV Vals ne_of_none OpR R2 EP CallR UnR IxR SlR TruR)
/-- an exception's own dict -/
def XAt (K : Fg) (m : Addr → Prop) (H : Hp) (x : P) (d : Addr) : Prop := ∃ v fs, H d = some (.xd fs) ∧ fs.lookup ("value" : Str) = some v ∧ RepP K m H x v
/-- the wish of an exception: its class, its dict, the heap -/
abbrev Wx := Nat → Addr → Hp → Prop
section
variable (K : Fg) (W : Nat → Option Addr → Hp → Prop) (O : Addr → Prop)
/-- where a result leads -/
def End {α β : Type} (Rp : (Nat → Addr) → Sr → Hp → α → β → Prop) (ρ : Nat → Addr) (st : Sr) (H : Hp) (r : R α) (Q : β → Hp → Prop) : Prop := match r with
  | .ok a st' => ∀ ρ' H' b, Stp ρ st H ρ' st' H' → RelS K O ρ' H' st' → Rp ρ' st' H' a b → Q b H'
  | .ex c x st' => ∀ ρ' H' d, Stp ρ st H ρ' st' H' → RelS K O ρ' H' st' → XAt K (Mt O ρ' st') H' x d → W c (some d) H'
  | .no => False
def RpV : (Nat → Addr) → Sr → Hp → Vl → V → Prop := fun ρ st H a b => Rep K O ρ st H a b
def RpA : (Nat → Addr) → Sr → Hp → List Vl → List V → Prop := fun ρ st H a b => Reps K O ρ st H a b
def RpB : (Nat → Addr) → Sr → Hp → Bool → Bool → Prop := fun _ _ _ a b => a = b
def RpO : (Nat → Addr) → Sr → Hp → Option Int → Option Int → Prop := fun _ _ _ a b => a = b
def EndS (ρ : Nat → Addr) (st : Sr) (H : Hp) (r : X) (D : Ends) : Prop := match r with
  | .nx e' st' => ∀ ρ' σ' H', Stp ρ st H ρ' st' H' → Rel K O ρ' σ' H' e' st' → D.nx σ' H'
  | .bk e' st' => ∀ ρ' σ' H', Stp ρ st H ρ' st' H' → Rel K O ρ' σ' H' e' st' → D.bk σ' H'
  | .ct e' st' => ∀ ρ' σ' H', Stp ρ st H ρ' st' H' → Rel K O ρ' σ' H' e' st' → D.ct σ' H'
  | .rt a st' => ∀ ρ' H' b, Stp ρ st H ρ' st' H' → RelS K O ρ' H' st' → Rep K O ρ' st' H' a b → D.rt b H'
  | .ex c x st' => ∀ ρ' H' d, Stp ρ st H ρ' st' H' → RelS K O ρ' H' st' → XAt K (Mt O ρ' st') H' x d → W c (some d) H'
  | .no => False
end
section
variable {K : Fg} {W : Nat → Option Addr → Hp → Prop} {O : Addr → Prop} {α β γ δ : Type} {Rp : (Nat → Addr) → Sr → Hp → α → β → Prop} {Rq : (Nat → Addr) → Sr → Hp → γ → δ → Prop}
  {ρ ρ1 : Nat → Addr} {σ : Sg} {st st1 : Sr} {H H1 : Hp} {e : En}
theorem End.later {r : R α} {Q : β → Hp → Prop} (h : End K W O Rp ρ st H r Q) (S : RelS K O ρ H st) (S1 : RelS K O ρ1 H1 st1) (s : Stp ρ st H ρ1 st1 H1) : End K W O Rp ρ1 st1 H1 r Q := by
  cases r with
  | ok a st' => exact fun ρ' H' b s' S' r => h ρ' H' b (s.trans S S1 s') S' r
  | ex c x st' => exact fun ρ' H' d s' S' r => h ρ' H' d (s.trans S S1 s') S' r
  | no => exact h
theorem EndS.later {r : X} {D : Ends} (h : EndS K W O ρ st H r D) (S : RelS K O ρ H st) (S1 : RelS K O ρ1 H1 st1) (s : Stp ρ st H ρ1 st1 H1) : EndS K W O ρ1 st1 H1 r D := by
  cases r with
  | nx e' st' => exact fun ρ' σ' H' s' S' => h ρ' σ' H' (s.trans S S1 s') S'
  | bk e' st' => exact fun ρ' σ' H' s' S' => h ρ' σ' H' (s.trans S S1 s') S'
  | ct e' st' => exact fun ρ' σ' H' s' S' => h ρ' σ' H' (s.trans S S1 s') S'
  | rt a st' => exact fun ρ' H' b s' S' r => h ρ' H' b (s.trans S S1 s') S' r
  | ex c x st' => exact fun ρ' H' d s' S' r => h ρ' H' d (s.trans S S1 s') S' r
  | no => exact h
theorem End.mono {r : R α} {Q Q' : β → Hp → Prop} (h : End K W O Rp ρ st H r Q) (q : ∀ b H, Q b H → Q' b H) : End K W O Rp ρ st H r Q' := by
  cases r with
  | ok a st' => exact fun ρ' H' b s' S' r => q _ _ (h ρ' H' b s' S' r)
  | ex c x st' => exact h
  | no => exact h
/-- the end of a first part -/
theorem End.bd {m : R α} {g : α → Sr → R γ} {Q : δ → Hp → Prop} {Q' : β → Hp → Prop} (S : RelS K O ρ H st) (h : End K W O Rq ρ st H (m.bd g) Q)
    (k : ∀ a st' ρ' H' b, m = .ok a st' → Stp ρ st H ρ' st' H' → RelS K O ρ' H' st' → Rp ρ' st' H' a b → End K W O Rq ρ' st' H' (g a st') Q → Q' b H') : End K W O Rp ρ st H m Q' := by
  cases m with
  | ok a st' => exact fun ρ' H' b s' S' r => k a st' ρ' H' b rfl s' S' r (End.later (show End K W O Rq ρ st H (g a st') Q from h) S S' s')
  | ex c x st' => exact h
  | no => exact h
theorem End.bx {m : R α} {g : α → Sr → X} {D : Ends} {Q' : β → Hp → Prop} (S : RelS K O ρ H st) (h : EndS K W O ρ st H (m.bx g) D)
    (k : ∀ a st' ρ' H' b, m = .ok a st' → Stp ρ st H ρ' st' H' → RelS K O ρ' H' st' → Rp ρ' st' H' a b → EndS K W O ρ' st' H' (g a st') D → Q' b H') : End K W O Rp ρ st H m Q' := by
  cases m with
  | ok a st' => exact fun ρ' H' b s' S' r => k a st' ρ' H' b rfl s' S' r (EndS.later (show EndS K W O ρ st H (g a st') D from h) S S' s')
  | ex c x st' => exact h
  | no => exact h
theorem bdA {m : R α} {f : α → Sr → R γ} {g : γ → Sr → R δ} : (m.bd f).bd g = m.bd fun a s => (f a s).bd g := by cases m <;> rfl
/-- an end that is there -/
theorem End.at {a : α} {b : β} {Q : β → Hp → Prop} (h : End K W O Rp ρ st H (.ok a st) Q) (S : RelS K O ρ H st) (r : Rp ρ st H a b) : Q b H := h ρ H b .rfl S r
end
section
variable (K : Fg) (W : Nat → Option Addr → Hp → Prop)
def TrE (f : En → Sr → R Vl) : TE := fun σ H Q => ∃ O ρ e st, Rel K O ρ σ H e st ∧ End K W O (RpV K O) ρ st H (f e st) Q
def TrT (f : En → Sr → R Bool) : TT := fun σ H Q => ∃ O ρ e st, Rel K O ρ σ H e st ∧ End K W O RpB ρ st H (f e st) Q
def TrA (f : En → Sr → R (List Vl)) : TA := fun σ H Q => ∃ O ρ e st, Rel K O ρ σ H e st ∧ End K W O (RpA K O) ρ st H (f e st) Q
def TrO (f : En → Sr → R (Option Int)) : L2.TO := fun σ H Q => ∃ O ρ e st, Rel K O ρ σ H e st ∧ End K W O RpO ρ st H (f e st) Q
def TrS (f : En → Sr → X) : TS := fun D σ H => ∃ O ρ e st, Rel K O ρ σ H e st ∧ EndS K W O ρ st H (f e st) D
def TrG (f : Vl → En → Sr → X) : TG := fun v σ H Q => ∃ O ρ e st w, Rel K O ρ σ H e st ∧ Rep K O ρ st H w v ∧ EndS K W O ρ st H (f w e st) { nx := Q, rt := fun _ _ => False }
def TrGs (f : List Vl → En → Sr → X) : TGs := fun vs σ H Q => ∃ O ρ e st ws, Rel K O ρ σ H e st ∧ Reps K O ρ st H ws vs ∧ EndS K W O ρ st H (f ws e st) { nx := Q, rt := fun _ _ => False }
/-- an iterator that yields these -/
def ItOk (O : Addr → Prop) (ρ : Nat → Addr) (st : Sr) (H : Hp) (vs : List Vl) (J : It) : Prop := ∀ (O' : Addr → Prop) (ρ' : Nat → Addr) (st' : Sr) (H' : Hp), Wid O O' H → Stp ρ st H ρ' st' H' → RelS K O' ρ' H' st' → ∀ i : Nat,
  (∀ v, vs[i]? = some v → J.go i H' ∧ ∀ x H'', J.yld i H' x H'' → Stp ρ' st' H' ρ' st' H'' ∧ RelS K O' ρ' H'' st' ∧ Rep K O' ρ' st' H'' v x) ∧ (vs.length ≤ i → J.stop i H')
def RpI (O : Addr → Prop) : (Nat → Addr) → Sr → Hp → (List Vl ⊕ Nat) → It → Prop := fun ρ st H w J => match w with
  | .inl vs => ItOk K O ρ st H vs J
  | .inr n => n < st.length ∧ J = L2.Itl K (ρ n)
def TrI (f : En → Sr → R (List Vl ⊕ Nat)) : TI := fun σ H Q => ∃ O ρ e st, Rel K O ρ σ H e st ∧ End K W O (RpI K O) ρ st H (f e st) fun J H' => Q J H'
end
/-! ### weaker readings -/
section
variable {C : Cx} {e : Expr} {es : List Expr}
theorem imE {t t' : TE} (h : PE C e t') (k : ∀ σ H Q, t σ H Q → t' σ H Q) : PE C e t := ⟨fun pins s σ H Q I q => h.run pins s σ H Q I (k σ H Q q)⟩
theorem imT {t t' : TT} (h : PT C e t') (k : ∀ σ H Q, t σ H Q → t' σ H Q) : PT C e t := ⟨fun pins s σ H Q I q => h.run pins s σ H Q I (k σ H Q q)⟩
theorem imW {t t' : TT} (h : L2.PW C e t') (k : ∀ σ H Q, t σ H Q → t' σ H Q) : L2.PW C e t := ⟨fun wh pins s σ H Q I q => h.run wh pins s σ H Q I (k σ H Q q)⟩
theorem imA {t t' : TA} (h : PA C es t') (k : ∀ σ H Q, t σ H Q → t' σ H Q) : PA C es t := ⟨fun pos pins s σ H Q I q => h.run pos pins s σ H Q I (k σ H Q q)⟩
theorem imS {x : Stmt} {t t' : TS} (h : PS C x t') (k : ∀ D σ H, t D σ H → t' D σ H) : PS C x t := ⟨fun pins s σ H D I q => h.run pins s σ H D I (k D σ H q)⟩
theorem imSs {x : List Stmt} {t t' : TS} (h : PSs C x t') (k : ∀ D σ H, t D σ H → t' D σ H) : PSs C x t := ⟨fun pins s σ H D I q => h.run pins s σ H D I (k D σ H q)⟩
theorem imG {t t' : TG} (h : PG C e t') (k : ∀ v σ H Q, t v σ H Q → t' v σ H Q) : PG C e t := ⟨fun pins s σ H v u Q I r q => h.run pins s σ H v u Q I r (k v σ H Q q)⟩
theorem imGs {t t' : TGs} (h : PGs C es t') (k : ∀ v σ H Q, t v σ H Q → t' v σ H Q) : PGs C es t := ⟨fun pins s σ H v u Q I r q => h.run pins s σ H v u Q I r (k v σ H Q q)⟩
theorem imI {tg : Expr} {t t' : TI} (h : PI C tg e t') (k : ∀ σ H Q, t σ H Q → t' σ H Q) : PI C tg e t := ⟨fun pins s σ H Q I q => h.run pins s σ H Q I (k σ H Q q)⟩
end
end Mi
end
section
set_option Elab.async false
set_option linter.all false
set_option maxRecDepth 100000
set_option maxHeartbeats 1000000
/-! M8: expressions, each by its parts. -/
namespace Mi
open PySem
open L2 (V HO Hp upd upd_same upd_ne SqL SqT Rd Cx Inv PE PT PA PS PSs PG PGs PI TE TT TA TS TG TGs TI It VK XK Ends RelV Vals ne_of_none OpR R2 EP CallR UnR IxR SlR TruR Gl Vis Loc)
section
variable {K : Fg} {O : Addr → Prop} {ρ : Nat → Addr} {σ : Sg} {H : Hp} {e : En} {st : Sr}
/-! ### what is given away -/
theorem give {n z : Nat} {xs : List P} (S : RelS K O ρ H st) (h : st[n]? = some (.lp z xs)) : Stp ρ st H ρ (st.set n (.lp 1 xs)) H ∧ RelS K O ρ H (st.set n (.lp 1 xs)) ∧ RepP K (Mt O ρ (st.set n (.lp 1 xs))) H (.list xs) (.ref (ρ n)) := by
  have lt := (List.getElem?_eq_some_iff.mp h).1
  have lv : ∀ a, live ρ (st.set n (.lp 1 xs)) a → live ρ st a := fun a ⟨k, o, h1, h2, h3⟩ => by
    by_cases q : n = k
    · subst q
      rw [List.getElem?_set_self lt] at h1
      cases h1; cases h2
    · rw [List.getElem?_set_ne q] at h1
      exact ⟨k, o, h1, h2, h3⟩
  have mt : ∀ a, H a ≠ none → Mt O ρ (st.set n (.lp 1 xs)) a → Mt O ρ st a := fun a _ q => q.elim .inl fun q => .inr (lv a q)
  obtain ⟨u, e1, vs, e2, r⟩ := S.ob n _ h
  refine ⟨⟨by simp, fun _ _ => rfl, fun a q => .inl (lv a q), fun _ _ e _ _ => e, fun k ns e => ?_, fun a ps e => ⟨#[], by rw [e]; simp⟩, fun k z' ys e => ?_, fun k z' ys e => ?_⟩, ⟨fun k o e => ?_, fun a b ha hb => S.inj a b (by simpa using ha) (by simpa using hb), fun k hk => S.out k (by simpa using hk), S.al⟩, ?_⟩
  · by_cases q : n = k
    · subst q; rw [h] at e; cases e
    · exact ⟨ns, by rw [List.getElem?_set_ne q]; exact e⟩
  · by_cases q : n = k
    · subst q; exact ⟨1, xs, by rw [List.getElem?_set_self lt]⟩
    · exact ⟨z', ys, by rw [List.getElem?_set_ne q]; exact e⟩
  · by_cases q : n = k
    · subst q; rw [h] at e; cases e
    · exact ⟨z', ys, by rw [List.getElem?_set_ne q]; exact e⟩
  · by_cases q : n = k
    · subst q
      rw [List.getElem?_set_self lt] at e
      cases e
      exact ⟨u, e1, vs, e2, r.oth mt⟩
    · rw [List.getElem?_set_ne q] at e
      obtain ⟨w, f1, f2⟩ := S.ob k o e
      refine ⟨w, f1, ?_⟩
      cases o with
      | lp z xs => obtain ⟨vs, rfl, r⟩ := f2; exact ⟨vs, rfl, r.oth mt⟩
      | lr ns => exact ⟨f2.1, fun n hn => by simpa using f2.2 n hn⟩
      | dp z kvs => obtain ⟨ks, q, r⟩ := f2; exact ⟨ks, q, r.map fun h => h.oth mt⟩
      | no => exact f2.elim
  · subst e2
    refine .lst (.inl ⟨.inl e1, fun q => ?_⟩) (r.oth mt)
    rcases q with q | ⟨k, o, h1, h2, h3⟩
    · exact S.out n lt q
    · have hk : k < st.length := by
        have := (List.getElem?_eq_some_iff.mp h1).1
        simpa using this
      have := S.inj k n hk lt h3
      subst this
      rw [List.getElem?_set_self lt] at h1
      cases h1; cases h2
theorem toP_ok {v : Vl} {x : P} {st' : Sr} {u : V} (S : RelS K O ρ H st) (h : toP v st = some (x, st')) (r : Rep K O ρ st H v u) : Stp ρ st H ρ st' H ∧ RelS K O ρ H st' ∧ RepP K (Mt O ρ st') H x u := by
  cases v with
  | p y => cases h; exact ⟨.rfl, S, r⟩
  | r n =>
    obtain ⟨hn, rfl⟩ := r
    simp only [toP] at h
    split at h
    · rename_i z xs q
      cases h
      exact give S q
    · cases h
theorem toPL_ok : ∀ {vs : List Vl} {us : List V} {xs : List P} {st st' : Sr}, RelS K O ρ H st → toPL vs st = some (xs, st') → Reps K O ρ st H vs us → Stp ρ st H ρ st' H ∧ RelS K O ρ H st' ∧ ReqP K (Mt O ρ st') H xs us
  | _, _, _, _, _, S, h, .nil => by cases h; exact ⟨.rfl, S, .nil⟩
  | _, _, _, _, _, S, h, .cons r rs => by
    simp only [toPL] at h
    split at h
    · rename_i x s1 e1
      split at h
      · rename_i xs s2 e2
        cases h
        obtain ⟨a1, a2, a3⟩ := toP_ok S e1 r
        obtain ⟨b1, b2, b3⟩ := toPL_ok a2 e2 (rs.stp S a1)
        exact ⟨a1.trans S a2 b1, b2, .cons (a3.stp a2 b1) b3⟩
      · cases h
    · cases h
end
section
variable {C : Cx} {W : Nat → Option Addr → Hp → Prop} {a b c : Expr} {es : List Expr} {fa fb fc : En → Sr → R Vl} {fs : En → Sr → R (List Vl)} {pos : Pos}
theorem Rel.go {K : Fg} {O : Addr → Prop} {ρ ρ' : Nat → Addr} {σ : Sg} {H H' : Hp} {e : En} {st st' : Sr} (R : Rel K O ρ σ H e st) (s : Stp ρ st H ρ' st' H') (S : RelS K O ρ' H' st') : Rel K O ρ' σ H' e st' := ⟨S, R.E.stp R.S s⟩
theorem xBin {o : Operator} (ha : PE C a (TrE C.K W fa)) (hb : PE C b (TrE C.K W fb)) : PE C (.BinOp a o b pos) (TrE C.K W fun e s => op2 (binP o) (fa e s) fun s => fb e s) :=
  imE (L2.pe_op (opBin o) ha hb) fun σ H Q ⟨O, ρ, e, st, R, h⟩ => ⟨O, ρ, e, st, R, End.bd R.S h fun x st1 ρ1 H1 v _ s1 S1 r1 h1 => ⟨O, ρ1, e, st1, R.go s1 S1, End.bd S1 h1 fun y st2 ρ2 H2 u _ s2 S2 r2 h2 => by
    split at h2
    · rename_i p q e1 e2
      split at h2
      · rename_i c e3
        exact ⟨O, ρ2, st2, p, q, c, S2, dd_rd S2 (Rep.stp S1 s2 r1) e1, dd_rd S2 r2 e2, e3, fun H' v s' S' r => h2 ρ2 H' v s' S' r⟩
      · exact h2.elim
    · exact h2.elim⟩⟩
theorem xNeg (ha : PE C a (TrE C.K W fa)) : PE C (.UnaryOp .USub a pos) (TrE C.K W fun e s => op1 negP (fa e s)) :=
  imE (L2.pe_un unNeg ha) fun σ H Q ⟨O, ρ, e, st, R, h⟩ => ⟨O, ρ, e, st, R, End.bd R.S h fun x st1 ρ1 H1 v _ s1 S1 r1 h1 => by
    split at h1
    · rename_i p e1
      split at h1
      · rename_i c e3
        exact ⟨O, ρ1, st1, p, c, S1, dd_rd S1 r1 e1, e3, fun H' v s' S' r => h1 ρ1 H' v s' S' r⟩
      · exact h1.elim
    · exact h1.elim⟩
theorem xCmp (hu : C.A.units + 65 < cLine) {o : CmpOp} (hm : behindInMarks o b = false) (ha : PE C a (TrE C.K W fa)) (hb : PE C b (TrE C.K W fb)) : PE C (.Compare a [o] [b] pos) (TrE C.K W fun e s => op2 (fun x y => blP (cmpP o x y)) (fa e s) fun s => fb e s) :=
  imE (L2.pe_cmpR (opCmp hu o) ha hb hm) fun σ H Q ⟨O, ρ, e, st, R, h⟩ => ⟨O, ρ, e, st, R, End.bd R.S h fun x st1 ρ1 H1 v _ s1 S1 r1 h1 => ⟨O, ρ1, e, st1, R.go s1 S1, End.bd S1 h1 fun y st2 ρ2 H2 u _ s2 S2 r2 h2 => by
    split at h2
    · rename_i p q e1 e2
      split at h2
      · rename_i c e3
        simp only [blP, Option.map_eq_some_iff] at e3
        obtain ⟨k, e3, rfl⟩ := e3
        exact ⟨O, ρ2, st2, p, q, k, S2, dd_rd S2 (Rep.stp S1 s2 r1) e1, dd_rd S2 r2 e2, e3, h2.at S2 (RepP.bl k)⟩
      · exact h2.elim
    · exact h2.elim⟩⟩
theorem tCmp (hu : C.A.units + 65 < cLine) {o : CmpOp} (hm : behindInMarks o b = false) (ha : PE C a (TrE C.K W fa)) (hb : PE C b (TrE C.K W fb)) : PT C (.Compare a [o] [b] pos) (TrT C.K W fun e s => tst (op2 (fun x y => blP (cmpP o x y)) (fa e s) fun s => fb e s)) :=
  imT (L2.pt_cmpR (opCmp hu o) ha hb hm) fun σ H Q ⟨O, ρ, e, st, R, h⟩ => by
    simp only [tst, op2, bdA] at h
    refine ⟨O, ρ, e, st, R, End.bd R.S h fun x st1 ρ1 H1 v _ s1 S1 r1 h1 => ⟨O, ρ1, e, st1, R.go s1 S1, End.bd S1 h1 fun y st2 ρ2 H2 u _ s2 S2 r2 h2 => ?_⟩⟩
    split at h2
    · rename_i p q e1 e2
      split at h2
      · rename_i c e3
        simp only [blP, Option.map_eq_some_iff] at e3
        obtain ⟨k, e3, rfl⟩ := e3
        exact ⟨O, ρ2, st2, p, q, k, S2, dd_rd S2 (Rep.stp S1 s2 r1) e1, dd_rd S2 r2 e2, e3, k, rfl, h2.at S2 rfl⟩
      · exact h2.elim
    · exact h2.elim
/-! leaves -/
theorem xC {x : Const} {d : P} (h : ofC x = some d) {k : Nat} : PE C (.Constant x k pos) (TrE C.K W (eC x)) := by
  have go : ∀ {v : V}, PE C (.Constant x k pos) (L2.tC v) → (∀ m H, RepP C.K m H d v) → PE C (.Constant x k pos) (TrE C.K W (eC x)) := fun {v} p r => imE p fun σ H Q ⟨O, ρ, e, st, R, q⟩ => by
    unfold eC Mi.R.of at q
    rw [h] at q
    exact q.at R.S (r _ _)
  cases x with
  | none => cases h; exact go L2.pe_non fun _ _ => .non
  | bool b => cases h; exact go L2.pe_bl fun _ _ => .bl b
  | int i => cases h; exact go L2.pe_int fun _ _ => .int i
  | str y => cases h; exact go L2.pe_str fun _ _ => .str y
  | _ => cases h
theorem xV {i : Nat} {x : Str} (hN : C.N[i]? = some x) (hv : Vis C.env.scope x) (hd : (x == ("__debug__" : Str)) = false) (hcd : (x == ("__classdict__" : Str)) = false) : PE C (.Name x pos) (TrE C.K W (eV i)) :=
  imE (L2.pe_var hN hv hd hcd) fun σ H Q ⟨O, ρ, e, st, R, q⟩ => by
    unfold eV at q
    split at q
    · rename_i v e1
      obtain ⟨u, h1, h2⟩ := R.E.sl i v e1
      exact ⟨u, h1, q.at R.S h2⟩
    · exact q.elim
theorem xG {gl : List P} {i : Nat} {x : Str} {d : P} {u : Value} {v : V} (hg : Gl C x) (hm : C.mg x = some u) (r : RelV v u) (hd : (x == ("__debug__" : Str)) = false) (e : gl[i]? = some d) (rp : ∀ m H, RepP C.K m H d v) : PE C (.Name x pos) (TrE C.K W (eG gl i)) :=
  imE (L2.pe_glob hg hm r hd) fun σ H Q ⟨O, ρ, e', st, R, q⟩ => by
    unfold eG at q
    rw [e] at q
    exact q.at R.S (rp _ _)
/-! displays -/
theorem xTup {k : Nat} (ha : PA C es (TrA C.K W fs)) : PE C (.Tuple es k pos) (TrE C.K W fun e s => (fs e s).bd mkTup) :=
  imE (L2.pe_tup ha) fun σ H Q ⟨O, ρ, e, st, R, h⟩ => ⟨O, ρ, e, st, R, End.bd R.S h fun xs st1 ρ1 H1 vs _ s1 S1 r1 h1 => by
    unfold mkTup at h1
    split at h1
    · rename_i ys s2 e2
      split at h1
      · rename_i hz
        obtain ⟨a1, a2, a3⟩ := toPL_ok S1 e2 r1
        exact ⟨lim_line (by rw [← a3.len]; exact hz), fun p hp => h1 ρ1 _ _ (a1.trans S1 a2 (Stp.new a2 hp)) (a2.new hp) (rep_newT a2 hp a3)⟩
      · exact h1.elim
    · exact h1.elim⟩
theorem mkLst_end {O : Addr → Prop} {ρ : Nat → Addr} {st : Sr} {H : Hp} {m : Bool} {xs : List P} {vs : List V} {Q : VK} {p : Addr} (S : RelS C.K O ρ H st) (h : End C.K W O (RpV C.K O) ρ st H (mkLst m xs st) Q) (hp : H p = none) (r : ReqP C.K (Mt O ρ st) H xs vs) : Q (.ref p) (upd H p (.lst vs)) := by
  unfold mkLst at h
  split at h
  · exact h _ _ _ (Stp.push hp) (S.push hp r) ⟨by simp, by rw [ext_same]⟩
  · exact h ρ _ _ (Stp.new S hp) (S.new hp) (rep_newL S hp r)
theorem xLst {m : Bool} (ha : PA C es (TrA C.K W fs)) : PE C (.List es pos) (TrE C.K W fun e s => (fs e s).bd (mkLstV m)) :=
  imE (L2.pe_lst ha) fun σ H Q ⟨O, ρ, e, st, R, h⟩ => ⟨O, ρ, e, st, R, End.bd R.S h fun xs st1 ρ1 H1 vs _ s1 S1 r1 h1 => by
    unfold mkLstV at h1
    split at h1
    · rename_i ys s2 e2
      split at h1
      · rename_i hz
        obtain ⟨a1, a2, a3⟩ := toPL_ok S1 e2 r1
        exact ⟨lim_line (by rw [← a3.len]; exact hz), fun p hp => mkLst_end a2 (h1.later S1 a2 a1) hp a3⟩
      · exact h1.elim
    · exact h1.elim⟩
theorem aNil : PA C [] (TrA C.K W fun _ s => .ok [] s) := imA L2.pa_nil fun σ H Q ⟨O, ρ, e, st, R, h⟩ => h.at R.S .nil
theorem aCns (ha : PE C a (TrE C.K W fa)) (hr : PA C es (TrA C.K W fs)) (hs : starEach (a :: es) C.env = (false, eval a C.env) :: starEach es C.env) : PA C (a :: es) (TrA C.K W fun e s => (fa e s).bd fun v s => (fs e s).bd fun vs s => .ok (v :: vs) s) :=
  imA (L2.pa_cons ha hr hs) fun σ H Q ⟨O, ρ, e, st, R, h⟩ => ⟨O, ρ, e, st, R, End.bd R.S h fun x st1 ρ1 H1 v _ s1 S1 r1 h1 => ⟨O, ρ1, e, st1, R.go s1 S1, End.bd S1 h1 fun y st2 ρ2 H2 u _ s2 S2 r2 h2 => h2.at S2 (.cons (Rep.stp S1 s2 r1) r2)⟩⟩
/-! subscripts -/
theorem xIx (ha : PE C a (TrE C.K W fa)) (hb : PE C b (TrE C.K W fb)) (hs : L2.PlainIx b) : PE C (.Subscript a b pos) (TrE C.K W fun e s => (fa e s).bd fun o s => (fb e s).bd fun i s => ixV o i s) :=
  imE (L2.pe_ix opIx ha hb hs) fun σ H Q ⟨O, ρ, e, st, R, h⟩ => ⟨O, ρ, e, st, R, End.bd R.S h fun x st1 ρ1 H1 v _ s1 S1 r1 h1 => ⟨O, ρ1, e, st1, R.go s1 S1, End.bd S1 h1 fun y st2 ρ2 H2 u _ s2 S2 r2 h2 => by
    cases q : ixV x y st2 with
    | ok w s' =>
      obtain ⟨e1, rfl⟩ := ixO_ok q
      rw [q] at h2
      exact ⟨O, ρ2, s', x, y, w, S2, Rep.stp S1 s2 r1, r2, e1, fun v r => h2.at S2 r⟩
    | ex c d s' => exact absurd q ixV_ex
    | no => rw [q] at h2; exact h2.elim⟩⟩
theorem oNone {f : En → Sr → R (Option Int)} (hf : ∀ e s, f e s = .ok none s) : L2.PO C none (TrO C.K W f) := ⟨fun pins s σ H Q I ⟨O, ρ, e, st, R, h⟩ => L2.po_none.run pins s σ H Q I (by rw [hf] at h; exact h.at R.S rfl)⟩
theorem oSome {f : En → Sr → R (Option Int)} (hf : ∀ e s, f e s = oneInt (fa e s)) (ha : PE C a (TrE C.K W fa)) : L2.PO C (some a) (TrO C.K W f) := ⟨fun pins s σ H Q I ⟨O, ρ, e, st, R, h⟩ => (L2.po_some ha).run pins s σ H Q I ⟨O, ρ, e, st, R, by
  rw [hf] at h
  exact End.bd R.S h fun x st1 ρ1 H1 v _ s1 S1 r1 h1 => by
    split at h1
    · rename_i i hi
      exact ⟨i, RepP.int_inv r1, h1.at S1 rfl⟩
    · exact h1.elim⟩⟩
theorem xSl {lo hi : Option Expr} {fl fh : En → Sr → R (Option Int)} {p2 : Pos} (ha : PE C a (TrE C.K W fa)) (hl : L2.PO C lo (TrO C.K W fl)) (hh : L2.PO C hi (TrO C.K W fh)) :
    PE C (.Subscript a (.Slice lo hi none p2) pos) (TrE C.K W fun e s => (fa e s).bd fun o s => (fl e s).bd fun l s => (fh e s).bd fun h s => R.of (((dd o s).bind fun x => slP x l h).map .p) s) :=
  imE (L2.pe_slice opSl ha hl hh) fun σ H Q ⟨O, ρ, e, st, R, h⟩ => ⟨O, ρ, e, st, R, End.bd R.S h fun x st1 ρ1 H1 v _ s1 S1 r1 h1 => ⟨O, ρ1, e, st1, R.go s1 S1, End.bd S1 h1 fun l st2 ρ2 H2 l' _ s2 S2 rl h2 =>
    ⟨O, ρ2, e, st2, (R.go s1 S1).go s2 S2, End.bd S2 h2 fun k st3 ρ3 H3 k' _ s3 S3 rk h3 => by
      cases (show l = l' from rl)
      cases (show k = k' from rk)
      cases e1 : dd x st3 with
      | none => rw [e1] at h3; exact h3.elim
      | some d =>
        cases e2 : slP d l k with
        | none => rw [e1, Option.bind_some, e2] at h3; exact h3.elim
        | some c =>
          rw [e1, Option.bind_some, e2] at h3
          exact ⟨O, ρ3, st3, d, c, S3, dd_rd S3 (Rep.stp S2 s3 (Rep.stp S1 s2 r1)) e1, e2, fun H' v s' S' r => h3 ρ3 H' v s' S' r⟩⟩⟩⟩
/-! truth -/
theorem xNt (ha : PE C a (TrE C.K W fa)) : PE C (.UnaryOp .Not a pos) (TrE C.K W fun e s => (tst (fa e s)).bd fun b s => .ok (.p (.bool !b)) s) :=
  imE (L2.pe_notT ha) fun σ H Q ⟨O, ρ, e, st, R, h⟩ => by
    simp only [tst, bdA] at h
    exact ⟨O, ρ, e, st, R, End.bd R.S h fun x st1 ρ1 H1 v _ s1 S1 r1 h1 => by
      cases q : truV x st1 with
      | none => rw [q] at h1; exact h1.elim
      | some k =>
        rw [q] at h1
        unfold truV at q
        cases q2 : dd x st1 with
        | none => rw [q2] at q; cases q
        | some d =>
          rw [q2] at q
          exact ⟨k, rd_tru (C := C) (dd_rd S1 r1 q2) q, h1.at S1 (RepP.bl _)⟩⟩
theorem truV_ok {O : Addr → Prop} {ρ : Nat → Addr} {st : Sr} {H : Hp} {x : Vl} {v : V} {k : Bool} (S : RelS C.K O ρ H st) (r : Rep C.K O ρ st H x v) (q : truV x st = some k) : L2.TruV C.K v H k := by
  unfold truV at q
  cases q2 : dd x st with
  | none => rw [q2] at q; cases q
  | some d => rw [q2] at q; exact rd_tru (C := C) (dd_rd S r q2) q
/-- a test, by the value's truth -/
theorem tVal (ha : PE C a (TrE C.K W fa)) (he : ∀ whole, isTrue a C.env whole = (do let v ← whole; standAt a.pos; holding [v] (truthy v))) : PT C a (TrT C.K W fun e s => tst (fa e s)) :=
  imT (L2.pt_truth ha he) fun σ H Q ⟨O, ρ, e, st, R, h⟩ => ⟨O, ρ, e, st, R, End.bd R.S h fun x st1 ρ1 H1 v _ s1 S1 r1 h1 => by
    cases q : truV x st1 with
    | none => rw [q] at h1; exact h1.elim
    | some k => rw [q] at h1; exact ⟨k, truV_ok S1 r1 q, h1.at S1 rfl⟩⟩
theorem tNt {ft : En → Sr → R Bool} (ha : PT C a (TrT C.K W fun e s => tst (fa e s))) : PT C (.UnaryOp .Not a pos) (TrT C.K W fun e s => tst ((tst (fa e s)).bd fun b s => .ok (.p (.bool !b)) s)) :=
  imT (L2.pt_not ha) fun σ H Q ⟨O, ρ, e, st, R, h⟩ => ⟨O, ρ, e, st, R, by
    dsimp only at h
    rw [show tst ((tst (fa e st)).bd fun b s => .ok (.p (.bool !b)) s) = (tst (fa e st)).bd fun b s => .ok (!b) s by cases tst (fa e st) <;> rfl] at h
    exact End.bd R.S h fun x st1 ρ1 H1 v _ s1 S1 r1 h1 => by
      cases (show x = v from r1)
      exact h1.at S1 rfl⟩
/-! if else -/
theorem xIte {ft : En → Sr → R Bool} (hc : PT C c (TrT C.K W ft)) (ha : PE C a (TrE C.K W fa)) (hb : PE C b (TrE C.K W fb)) : PE C (.IfExp c a b pos) (TrE C.K W fun e s => (ft e s).bd fun k s => if k then fa e s else fb e s) :=
  imE (L2.pe_ifExp hc ha hb) fun σ H Q ⟨O, ρ, e, st, R, h⟩ => ⟨O, ρ, e, st, R, End.bd R.S h fun x st1 ρ1 H1 v _ s1 S1 r1 h1 => by
    cases (show x = v from r1)
    cases x with
    | true => exact ⟨O, ρ1, e, st1, R.go s1 S1, h1⟩
    | false => exact ⟨O, ρ1, e, st1, R.go s1 S1, h1⟩⟩
/-! and, or -/
theorem xOne {op : BoolOp} (ha : PE C a (TrE C.K W fa)) : PE C (.BoolOp op [a] pos) (TrE C.K W fa) := L2.pe_one ha
theorem xOr {rest : List Expr} (ha : PE C a (TrE C.K W fa)) (hb : PE C (.BoolOp .Or (b :: rest) pos) (TrE C.K W fb)) : PE C (.BoolOp .Or (a :: b :: rest) pos) (TrE C.K W fun e s => orP (fa e s) (fun s => fb e s) true) :=
  imE (L2.pe_orT ha hb) fun σ H Q ⟨O, ρ, e, st, R, h⟩ => ⟨O, ρ, e, st, R, End.bd R.S h fun x st1 ρ1 H1 v _ s1 S1 r1 h1 => by
    cases q : truV x st1 with
    | none => rw [q] at h1; exact h1.elim
    | some k =>
      rw [q] at h1
      refine ⟨k, truV_ok S1 r1 q, ?_⟩
      cases k with
      | true => exact h1.at S1 r1
      | false => exact ⟨O, ρ1, e, st1, R.go s1 S1, h1⟩⟩
theorem xAnd {rest : List Expr} (ha : PE C a (TrE C.K W fa)) (hb : PE C (.BoolOp .And (b :: rest) pos) (TrE C.K W fb)) : PE C (.BoolOp .And (a :: b :: rest) pos) (TrE C.K W fun e s => orP (fa e s) (fun s => fb e s) false) :=
  imE (L2.pe_andT ha hb) fun σ H Q ⟨O, ρ, e, st, R, h⟩ => ⟨O, ρ, e, st, R, End.bd R.S h fun x st1 ρ1 H1 v _ s1 S1 r1 h1 => by
    cases q : truV x st1 with
    | none => rw [q] at h1; exact h1.elim
    | some k =>
      rw [q] at h1
      refine ⟨k, truV_ok S1 r1 q, ?_⟩
      cases k with
      | false => exact h1.at S1 r1
      | true => exact ⟨O, ρ1, e, st1, R.go s1 S1, h1⟩⟩
theorem wOne {ft : En → Sr → R Bool} {op : BoolOp} (ha : PT C a (TrT C.K W ft)) : L2.PW C (.BoolOp op [a] pos) (TrT C.K W ft) := by
  cases op with
  | Or => exact L2.pw_or1 ha
  | And => exact L2.pw_and1 ha
theorem tst_or (m : R Vl) (f : Sr → R Vl) : tst (orP m f true) = (tst m).bd fun k s => if k then .ok true s else tst (f s) := by
  unfold tst orP
  cases m with
  | ok v s =>
    show (R.bd (match truV v s with | some c => if c = true then R.ok v s else f s | none => R.no) _) = (R.bd (R.of (truV v s) s) _)
    cases q : truV v s with
    | none => rfl
    | some c =>
      cases c
      · rfl
      · show R.of (truV v s) s = _
        rw [q]; rfl
  | ex c x s => rfl
  | no => rfl
theorem tst_and (m : R Vl) (f : Sr → R Vl) : tst (orP m f false) = (tst m).bd fun k s => if k then tst (f s) else .ok false s := by
  unfold tst orP
  cases m with
  | ok v s =>
    show (R.bd (match truV v s with | some c => if c = false then R.ok v s else f s | none => R.no) _) = (R.bd (R.of (truV v s) s) _)
    cases q : truV v s with
    | none => rfl
    | some c =>
      cases c
      · show R.of (truV v s) s = _
        rw [q]; rfl
      · rfl
  | ex c x s => rfl
  | no => rfl
theorem wOr {rest : List Expr} (ha : PT C a (TrT C.K W fun e s => tst (fa e s))) (hb : L2.PW C (.BoolOp .Or (b :: rest) pos) (TrT C.K W fun e s => tst (fb e s))) : L2.PW C (.BoolOp .Or (a :: b :: rest) pos) (TrT C.K W fun e s => tst (orP (fa e s) (fun s => fb e s) true)) :=
  imW (L2.pw_or ha hb) fun σ H Q ⟨O, ρ, e, st, R, h⟩ => ⟨O, ρ, e, st, R, by
    dsimp only at h
    rw [tst_or] at h
    exact End.bd R.S h fun x st1 ρ1 H1 v _ s1 S1 r1 h1 => by
      cases (show x = v from r1)
      cases x with
      | true => exact h1.at S1 rfl
      | false => exact ⟨O, ρ1, e, st1, R.go s1 S1, h1⟩⟩
theorem wAnd {rest : List Expr} (ha : PT C a (TrT C.K W fun e s => tst (fa e s))) (hb : L2.PW C (.BoolOp .And (b :: rest) pos) (TrT C.K W fun e s => tst (fb e s))) : L2.PW C (.BoolOp .And (a :: b :: rest) pos) (TrT C.K W fun e s => tst (orP (fa e s) (fun s => fb e s) false)) :=
  imW (L2.pw_and ha hb) fun σ H Q ⟨O, ρ, e, st, R, h⟩ => ⟨O, ρ, e, st, R, by
    dsimp only at h
    rw [tst_and] at h
    exact End.bd R.S h fun x st1 ρ1 H1 v _ s1 S1 r1 h1 => by
      cases (show x = v from r1)
      cases x with
      | false => exact h1.at S1 rfl
      | true => exact ⟨O, ρ1, e, st1, R.go s1 S1, h1⟩⟩
end
end Mi
end
section
set_option Elab.async false
set_option linter.all false
set_option maxRecDepth 100000
set_option maxHeartbeats 1000000
/-! M9: xs[::-1], calls of built-ins, append. -/
namespace Mi
open PySem
open L2 (V HO Hp upd upd_same upd_ne SqL SqT Rd Cx Inv PE PT PA PS PSs PG PGs PI TE TT TA TS TG TGs TI It VK XK Ends RelV Vals ne_of_none OpR R2 EP CallR UnR IxR SlR TruR Gl Vis Loc)
section
variable {prog : Program} {w : World} {A : Around} {E : Value → Shared → Prop} {s : Shared}
theorem rev_adj (n : Nat) : Builtin.Slice.sliceAdjust none none (-1) (n : Int) = ((n : Int) - 1, -1) := by
  unfold Builtin.Slice.sliceAdjust
  simp
theorem rev_plc (n : Nat) : Builtin.Slice.slicePlaces ((n : Int) - 1) (-1) (-1) = n := by
  unfold Builtin.Slice.slicePlaces
  simp
  omega
theorem rev_app {sl : Addr} {vk : Value} {n : Nat} {Q : Int × Int × Nat → Shared → Prop} (hs : s.heap.IsSliceOf sl .none .none vk) (pk : IsPart vk (some (-1)))
    (h : Q ((n : Int) - 1, -1, n) s) : wpAny (model prog w) A (Builtin.Slice.sliceApplied (.ref sl) (pure (n : Int))) Q E s := by
  obtain ⟨os, hos, hcs, hds⟩ := id hs
  unfold Builtin.Slice.sliceApplied Builtin.Slice.sliceFields
  refine wpAny_bind (wpAny_bind (wpAny_field hos hds (x := .none) rfl (wpAny_bind (wpAny_field hos hds (x := .none) rfl (wpAny_bind (wpAny_field hos hds (x := vk) rfl (wpAny_pure ?_)))))))
  refine wpAny_bind (HT.slicePart_ pk ?_)
  show wpAny _ _ (if ((-1 : Int) == 0) = true then _ else _) _ _ s
  rw [if_neg (by decide)]
  refine wpAny_bind (HT.slicePart_ .none (wpAny_bind (HT.slicePart_ .none (wpAny_bind (wpAny_pure ?_)))))
  show wpAny _ _ (match Builtin.Slice.sliceAdjust none none (-1) (n : Int) with | (lo, hi) => pure (lo, (-1 : Int), Builtin.Slice.slicePlaces lo hi (-1))) _ _ s
  rw [rev_adj n]
  show wpAny _ _ (pure ((n : Int) - 1, (-1 : Int), Builtin.Slice.slicePlaces ((n : Int) - 1) (-1) (-1))) _ _ s
  rw [rev_plc]
  exact wpAny_pure h
theorem fm_congr {α β : Type} {f g : α → Option β} : ∀ {l : List α}, (∀ a ∈ l, f a = g a) → l.filterMap f = l.filterMap g
  | [], _ => rfl
  | a :: l, h => by
    rw [List.filterMap_cons, List.filterMap_cons, h a List.mem_cons_self, fm_congr fun b hb => h b (List.mem_cons_of_mem _ hb)]
theorem rev_pick (xs : Array Value) : ((List.range xs.size).filterMap fun (k : Nat) => xs[((xs.size : Int) - 1 + (k : Int) * (-1)).toNat]?).toArray = xs.toList.reverse.toArray := by
  have h : ∀ k ∈ List.range xs.size, xs[((xs.size : Int) - 1 + (k : Int) * (-1)).toNat]? = xs.toList.reverse[k]? := fun k hk => by
    have hk' := List.mem_range.mp hk
    rw [show ((xs.size : Int) - 1 + (k : Int) * (-1)).toNat = xs.size - 1 - k by omega, List.getElem?_reverse (by simpa using hk')]
    simp
  have h2 : (List.range xs.size).filterMap (fun (k : Nat) => xs[((xs.size : Int) - 1 + (k : Int) * (-1)).toNat]?) = (List.range xs.toList.reverse.length).filterMap fun k => xs.toList.reverse[k]? := by
    rw [List.length_reverse, Array.length_toList]
    exact fm_congr h
  rw [h2]
  have := PySem.W.krv_all xs.toList.reverse.toArray
  simp at this
  simp [this]
theorem rev_tup {t sl : Addr} {items : Array Value} {vk : Value} {Q : Value → Shared → Prop} (ht : PyProof.Rows.IsTup s.heap t items) (hs : s.heap.IsSliceOf sl .none .none vk) (pk : IsPart vk (some (-1)))
    (h : Q (.ref s.heap.objs.size) { s with heap := s.heap.push { cls := .type "tuple", data := .seq items.toList.reverse.toArray } }) (hsz : items.size ≤ sizeLine) : wpAny (model prog w) A (getItem (.ref t) (.ref sl)) Q E s := by
  have htake : sizeOk (.seq items.toList.reverse.toArray) := by
    show items.toList.reverse.toArray.size ≤ sizeLine
    simpa using hsz
  obtain ⟨os, hos, hcs, hds⟩ := id hs
  have hTs : s.TypeIs (.ref sl) "slice" := ⟨os, hos, hcs⟩
  unfold getItem
  try with_reducible refine wpAny_holding ?_
  first | refine wpAny_bind (wpAny_pure ?_) | skip
  refine wpAny_bind (wpAny_sequenceKey ht.typeIs (by decide) ?_)
  refine wpAny_bind (wpAny_callSpecial?_slot (name := Str.ofString "__getitem__") ht.typeIs PyProof.Rows.slot_tuple_getitem
    (wpAny_call_entry PyProof.Rows.slot_tuple_getitem ht.typeIs PyProof.Rows.entry_tuple_getitem ?_ (PyProof.Rows.args_tuple_getitem _ _)))
  show wpAny _ _ (Builtin.Tuple.tupleItemsOf (.ref t) >>= _) _ _ s
  refine wpAny_bind (PyProof.Rows.tupleItemsOf_ ht ?_)
  refine wpAny_bind (wpAny_typeOf hTs ?_)
  rw [if_pos (by decide)]
  refine wpAny_bind (rev_app hs pk ?_)
  show wpAny _ _ (if ((((items.size : Int) - 1) == 0) && (-1 : Int) == 1 && items.size == items.size) = true then _ else _) _ _ s
  rw [if_neg (by simp), rev_pick]
  first
    | exact wpAny_bind (m := Builtin.Tuple.tupleExact _) (wpAny_newObj_type (wpAny_pure ⟨_, rfl, wpAny_pure h⟩) htake)
    | exact wpAny_bind (m := Builtin.Tuple.tupleExact _) (wpAny_newObj_type (wpAny_bind (wpAny_pure (wpAny_pure ⟨_, rfl, wpAny_pure h⟩))) htake)
    | exact wpAny_bind (wpAny_bind (m := Builtin.Tuple.tupleExact _) (wpAny_newObj_type (wpAny_pure (wpAny_pure ⟨_, rfl, wpAny_pure h⟩)) htake))
    | exact wpAny_bind (wpAny_bind (m := Builtin.Tuple.tupleExact _) (wpAny_newObj_type (wpAny_pure ⟨_, rfl, wpAny_pure h⟩) htake))
end
section
variable {C : Cx} {W : Nat → Option Addr → Hp → Prop} {a b c : Expr} {es : List Expr} {fa fb fc : En → Sr → R Vl} {fs : En → Sr → R (List Vl)} {pos : Pos}
/-- x[::-1] -/
theorem xRv {k : Nat} {p1 p2 p3 : Pos} (ha : PE C a (TrE C.K W fa)) : PE C (.Subscript a (.Slice none none (some (.UnaryOp .USub (.Constant (.int 1) k p1) p2)) p3) pos) (TrE C.K W fun e s => op1 rvP (fa e s)) := by
  refine ⟨fun pins s σ H Q I ⟨O, ρ, e, st, R, h⟩ => ?_⟩
  refine PyProof.Rows.Subscript_ (L2.thn (ha.run pins s σ H _ I ⟨O, ρ, e, st, R, End.bd (Q' := fun x H1 => ∃ d c ρ1 st1, rvP d = some c ∧ RdP C.K (Mt O ρ1 st1) H1 d x ∧ RelS C.K O ρ1 H1 st1 ∧ ∀ H' v, Stp ρ1 st1 H1 ρ1 st1 H' → RelS C.K O ρ1 H' st1 → RepP C.K (Mt O ρ1 st1) H' c v → Q v H') R.S h fun x st1 ρ1 H1 v _ s1 S1 r1 h1 => ?_⟩) fun v s1 ⟨x, H1, I1, r1, d, c, ρ1, st1, e1, rd, S1, q⟩ => ?_)
  · split at h1
    · rename_i p e1
      split at h1
      · rename_i c e3
        exact ⟨p, c, ρ1, st1, e3, dd_rd S1 r1 e1, S1, fun H' v s' S' r => h1 ρ1 H' v s' S' r⟩
      · exact h1.elim
    · exact h1.elim
  have hst : L2.PO C (some (.UnaryOp .USub (.Constant (.int 1) k p1) p2)) (L2.tPart (L2.tUn (L2.rU fun i => .int (-i)) (L2.tC (.int 1)))) := L2.po_some (L2.pe_un L2.un_neg L2.pe_int)
  refine wpAny_Slice (L2.thn (L2.po_none.run pins s1 σ H1 (fun o H2 => o = none ∧ H2 = H1) I1 ⟨rfl, rfl⟩) fun vl s2 ⟨l, H2, I2, pl, el, e2⟩ => ?_)
  subst el e2
  refine L2.thn (L2.po_none.run pins s2 σ H2 (fun o H3 => o = none ∧ H3 = H2) I2 ⟨rfl, rfl⟩) fun vu s3 ⟨u, H3, I3, pu, eu, e3⟩ => ?_
  subst eu e3
  refine L2.thn (hst.run pins s3 σ H3 (fun o H4 => o = some (-1) ∧ H4 = H3) I3 ⟨1, rfl, -1, rfl, rfl, rfl⟩) fun vs s4 ⟨o, H4, I4, ps, eo, e4⟩ => ?_
  subst eo e4
  have I5 : Inv C pins σ H4 { s4 with heap := s4.heap.push { cls := .type "slice", data := .fields #[vl, vu, vs] } } := I4.kept (t' := s4.toks) fun b ob q => Heap.get?_push_of_some _ q
  have hp := frsh I5
  cases d with
  | list ds =>
    cases e1
    obtain ⟨a', xs, rfl, hx, rr⟩ := rd.list
    cases r1
    obtain ⟨its, r, ht, hz⟩ := I5.list hx.sq
    have hlen := r.length
    show wpAny (model C.prog C.w) C.A (PyProof.Rows.subscriptTail a (.Slice none none (some (.UnaryOp .USub (.Constant (.int 1) k p1) p2)) p3) (.ref a') (.ref s4.heap.objs.size)) (EP C pins σ Q) C.xe { s4 with heap := s4.heap.push { cls := .type "slice", data := .fields #[vl, vu, vs] } }
    refine PyProof.Rows.tail_any (ops := [.ref a', .ref s4.heap.objs.size]) ht.isList.typeIs (PySem.slot_list_getitem.lookup) ?_ (by with_unfolding_all rfl)
    refine wpAny_getItem_list_slice ht.isList (Heap.IsSliceOf.new _ vl vu vs) pl pu ps (by decide) ?_ (by rw [List.size_toArray]; omega)
    rw [PySem.W.krv_pick]
    exact ⟨.ref _, _, lst_new (t := s4.toks) I5 r.reverse (by rw [List.length_reverse]; exact hz), rfl, q _ _ (Stp.new S1 hp) (S1.new hp) (rep_newL S1 hp rr.rev)⟩
  | tuple ds =>
    cases e1
    obtain ⟨a', xs, rfl, hx, rr⟩ := rd.tup
    cases r1
    cases pl
    cases pu
    obtain ⟨its, r, ht, hz⟩ := I5.tuple hx
    have hlen := r.length
    show wpAny (model C.prog C.w) C.A (PyProof.Rows.subscriptTail a (.Slice none none (some (.UnaryOp .USub (.Constant (.int 1) k p1) p2)) p3) (.ref a') (.ref s4.heap.objs.size)) (EP C pins σ Q) C.xe { s4 with heap := s4.heap.push { cls := .type "slice", data := .fields #[.none, .none, vs] } }
    refine PyProof.Rows.tail_any (ops := [.ref a', .ref s4.heap.objs.size]) ht.typeIs PyProof.Rows.slot_tuple_getitem.lookup ?_ (by with_unfolding_all rfl)
    refine rev_tup ht (Heap.IsSliceOf.new _ .none .none vs) ps ?_ (by rw [List.size_toArray]; omega)
    exact ⟨.ref _, _, tup_new (t := s4.toks) I5 r.reverse (by rw [List.length_reverse]; exact hz), rfl, q _ _ (Stp.new S1 hp) (S1.new hp) (rep_newT S1 hp rr.rev)⟩
  | _ => cases e1
/-! ### calls of built-ins -/
theorem star_cons (t : T) (es : List Expr) (env : Env) : starEach (toE t :: es) env = (false, eval (toE t) env) :: starEach es env := by
  induction t with
  | pl x ih => exact ih
  | dwk x ih => exact ih
  | _ => rfl
/-- no star in an argument list -/
def ns : T → Bool
  | .nil => true
  | .cons _ b => ns b
  | _ => false
theorem ns_star : ∀ (t : T), ns t = true → ∀ (env : Env), (starEach (toEs t) env).any (·.1) = false
  | .nil, _, _ => rfl
  | .cons a b, h, env => by
    show (starEach (toE a :: toEs b) env).any (·.1) = false
    rw [star_cons, List.any_cons, ns_star b h env]
    rfl
theorem back_any (pos : Pos) (l : List (Bool × Sem Value)) : (backTo pos l).any (·.1) = l.any (·.1) := by
  unfold backTo
  rw [List.any_map]
  rfl
def biN : Bi → Str
  | .len => "len"
  | .int => "int"
  | .abs => "abs"
  | .max => "max"
  | .min => "min"
  | .sum => "sum"
  | .all => "all"
  | .any => "any"
  | .tuple => "tuple"
  | .list => "list"
  | .sorted => "sorted"
theorem xCB {x : Str} {id : String} {f : List P → Option P} {T0 T1 : T} {p : Pos} (hc : CallR C (.builtin id) (rPL C.K f)) (hg : Gl C x) (hm : C.mg x = none) (hv : bootBuiltins x = some (.builtin id)) (hn : x ≠ "__name__") (hdb : (x == ("__debug__" : Str)) = false) (hs : ns T1 = true)
    (ha : PA C (toE T0 :: toEs T1) (TrA C.K W fs)) : PE C (.Call (.Name x p) (toE T0 :: toEs T1) [] pos) (TrE C.K W fun e s => opL f (fs e s)) :=
  imE (L2.pe_callB hc hg hm hv ha hn hdb (star_cons _ _ _) (by rw [back_any]; exact ns_star _ hs _)) fun σ H Q ⟨O, ρ, e, st, R, h⟩ => ⟨O, ρ, e, st, R, End.bd R.S h fun x st1 ρ1 H1 v _ s1 S1 r1 h1 => by
    split at h1
    · rename_i as e1
      split at h1
      · rename_i c e3
        exact ⟨O, ρ1, st1, as, c, S1, ddL_rd S1 r1 e1, e3, fun H' v s' S' r => h1 ρ1 H' v s' S' r⟩
      · exact h1.elim
    · exact h1.elim⟩
theorem xCT {x : Str} {id : String} {f : List P → Option P} {T0 T1 : T} {p : Pos} (hc : CallR C (.type id) (rPL C.K f)) (hg : Gl C x) (hm : C.mg x = none) (hv : bootBuiltins x = some (.type id)) (hn : x ≠ "__name__") (hdb : (x == ("__debug__" : Str)) = false) (hs : ns T1 = true)
    (ha : PA C (toE T0 :: toEs T1) (TrA C.K W fs)) : PE C (.Call (.Name x p) (toE T0 :: toEs T1) [] pos) (TrE C.K W fun e s => opL f (fs e s)) :=
  imE (L2.pe_callTy hc hg hm hv ha hn hdb (star_cons _ _ _) (by rw [back_any]; exact ns_star _ hs _)) fun σ H Q ⟨O, ρ, e, st, R, h⟩ => ⟨O, ρ, e, st, R, End.bd R.S h fun x st1 ρ1 H1 v _ s1 S1 r1 h1 => by
    split at h1
    · rename_i as e1
      split at h1
      · rename_i c e3
        exact ⟨O, ρ1, st1, as, c, S1, ddL_rd S1 r1 e1, e3, fun H' v s' S' r => h1 ρ1 H' v s' S' r⟩
      · exact h1.elim
    · exact h1.elim⟩
theorem xBi (hc : C.calm = true) (hu : C.A.units + 65 < cLine) {f : Bi} {T0 T1 : T} {p : Pos} (hg : Gl C (biN f)) (hm : C.mg (biN f) = none) (hs : ns T1 = true) (ha : PA C (toE T0 :: toEs T1) (TrA C.K W fs)) :
    PE C (.Call (.Name (biN f) p) (toE T0 :: toEs T1) [] pos) (TrE C.K W fun e s => opL (biP f) (fs e s)) := by
  cases f with
  | len => exact xCB bLen hg hm (by decide +kernel) (by decide) (by decide) hs ha
  | int => exact xCT bInt hg hm (by decide +kernel) (by decide) (by decide) hs ha
  | abs => exact xCB bAbs hg hm (by decide +kernel) (by decide) (by decide) hs ha
  | max => exact xCB (bMax hc hu) hg hm (by decide +kernel) (by decide) (by decide) hs ha
  | min => exact xCB (bMin hc hu) hg hm (by decide +kernel) (by decide) (by decide) hs ha
  | sum => exact xCB (bSum hc) hg hm (by decide +kernel) (by decide) (by decide) hs ha
  | all => exact xCB (bAll hc) hg hm (by decide +kernel) (by decide) (by decide) hs ha
  | any => exact xCB (bAny hc) hg hm (by decide +kernel) (by decide) (by decide) hs ha
  | tuple => exact xCT bTuple hg hm (by decide +kernel) (by decide) (by decide) hs ha
  | list => exact xCT bList hg hm (by decide +kernel) (by decide) (by decide) hs ha
  | sorted => exact xCB (bSorted hu) hg hm (by decide +kernel) (by decide) (by decide) hs ha
def rIsX (K : Fg) (ty : Str) : List V → Hp → VK → Prop := fun xs H Q => ∃ (m : Addr → Prop) (x : P) (v : V) (b : Bool), xs = [v, .ty (tyN ty)] ∧ RdP K m H x v ∧ tyP ty x = some b ∧ Q (.bl b) H
theorem cIsX {ty : Str} (hk : okTy ty = true) : CallR C (.builtin "isinstance") (rIsX C.K ty) := by
  intro pins s σ H xs us Q I r ⟨m, x, v, b, e1, rd, e2, q⟩
  subst e1
  exact bIsi hk I rd e2 r q
theorem okTy_nm {ty : Str} (hk : okTy ty = true) : ty ≠ "__name__" ∧ (ty == ("__debug__" : Str)) = false := by
  unfold okTy at hk
  simp only [Bool.or_eq_true, beq_iff_eq] at hk
  rcases hk with ((((rfl | rfl) | rfl) | rfl) | rfl) | rfl <;> decide
theorem xIsi {ty : Str} {T0 : T} {p0 p1 : Pos} (hk : okTy ty = true) (hg : Gl C "isinstance") (hm : C.mg "isinstance" = none) (hg2 : Gl C ty) (hm2 : C.mg ty = none) (ha : PE C (toE T0) (TrE C.K W fa)) :
    PE C (.Call (.Name "isinstance" p0) [toE T0, .Name ty p1] [] pos) (TrE C.K W fun e s => op1 (fun x => blP (tyP ty x)) (fa e s)) :=
  imE (L2.pe_callB (cIsX hk) hg hm (by decide +kernel) (L2.pa_cons ha (L2.pa_cons (L2.pe_bltn hg2 hm2 (ty_boot hk) (v := .ty (tyN ty)) rfl (okTy_nm hk).1 (okTy_nm hk).2) L2.pa_nil) (star_cons _ _ _)) (by decide) (by decide) (star_cons _ _ _)) fun σ H Q ⟨O, ρ, e, st, R, h⟩ =>
    ⟨O, ρ, e, st, R, End.bd R.S h fun x st1 ρ1 H1 v _ s1 S1 r1 h1 => by
      split at h1
      · rename_i p e1
        split at h1
        · rename_i c e3
          simp only [blP, Option.map_eq_some_iff] at e3
          obtain ⟨b, e3, rfl⟩ := e3
          exact ⟨Mt O ρ1 st1, p, v, b, rfl, dd_rd S1 r1 e1, e3, h1.at S1 (RepP.bl b)⟩
        · exact h1.elim
      · exact h1.elim⟩
end
end Mi
end
section
set_option Elab.async false
set_option linter.all false
set_option maxRecDepth 100000
set_option maxHeartbeats 1000000
/-! M10: the store is changed: append, o[i] = v; targets; small statements. -/
namespace Mi
open PySem
open L2 (V HO Hp upd upd_same upd_ne SqL SqT Rd Cx Inv PE PT PA PS PSs PG PGs PI TE TT TA TS TG TGs TI It VK XK Ends RelV Vals ne_of_none OpR R2 EP CallR UnR IxR SlR TruR Gl Vis Loc)
section
variable {K : Fg} {O : Addr → Prop} {ρ : Nat → Addr} {σ : Sg} {H : Hp} {e : En} {st : Sr}
/-- a live thing of the store is changed -/
theorem RelS.upd {n : Nat} {o o' : Ob} {h : HO} (S : RelS K O ρ H st) (hn : st[n]? = some o) (s : Stp ρ st H ρ (st.set n o') (L2.upd H (ρ n) h)) (r : RepOb K O ρ (st.set n o') (L2.upd H (ρ n) h) o' h) : RelS K O ρ (L2.upd H (ρ n) h) (st.set n o') := by
  have lt := (List.getElem?_eq_some_iff.mp hn).1
  refine ⟨fun k u e => ?_, fun a b ha hb => S.inj a b (by simpa using ha) (by simpa using hb), fun k hk => S.out k (by simpa using hk), fun a ha => ?_⟩
  · by_cases q : n = k
    · subst q
      rw [List.getElem?_set_self lt] at e
      cases e
      exact ⟨h, upd_same, r⟩
    · rw [List.getElem?_set_ne q] at e
      have lk := (List.getElem?_eq_some_iff.mp e).1
      obtain ⟨w, f1, f2⟩ := S.ob k u e
      refine ⟨w, by rw [upd_ne fun z => q (S.inj k n lk lt z).symm]; exact f1, ?_⟩
      cases u with
      | lp z xs => obtain ⟨vs, rfl, r⟩ := f2; exact ⟨vs, rfl, r.stp S s⟩
      | lr ns => exact ⟨f2.1, fun n hn => by simpa using f2.2 n hn⟩
      | dp z kvs => obtain ⟨ks, q, r⟩ := f2; exact ⟨ks, q, r.map fun h => h.stp S s⟩
      | no => exact f2.elim
  · by_cases q : a = ρ n
    · subst q; exact absurd ha (S.out n lt)
    · rw [upd_ne q]; exact S.al a ha
theorem plain_upd {n : Nat} {xs ys : List P} {us : List V} (S : RelS K O ρ H st) (hn : st[n]? = some (.lp 0 xs)) (r : ReqP K (Mt O ρ st) H ys us) :
    Stp ρ st H ρ (st.set n (.lp 0 ys)) (L2.upd H (ρ n) (.lst us)) ∧ RelS K O ρ (L2.upd H (ρ n) (.lst us)) (st.set n (.lp 0 ys)) := by
  have s : Stp ρ st H ρ (st.set n (.lp 0 ys)) (L2.upd H (ρ n) (.lst us)) := Stp.upd hn rfl (fun _ z => nomatch z) (fun _ _ _ => ⟨_, _, rfl⟩) (fun _ _ z => nomatch z) S
  exact ⟨s, S.upd hn s ⟨us, rfl, r.stp S s⟩⟩
theorem refs_upd {n m : Nat} {xs : List Nat} (S : RelS K O ρ H st) (hn : st[n]? = some (.lr xs)) (hm : m < st.length) :
    Stp ρ st H ρ (st.set n (.lr (xs ++ [m]))) (L2.upd H (ρ n) (.lst (xs.map (fun n => V.ref (ρ n)) ++ [.ref (ρ m)]))) ∧ RelS K O ρ (L2.upd H (ρ n) (.lst (xs.map (fun n => V.ref (ρ n)) ++ [.ref (ρ m)]))) (st.set n (.lr (xs ++ [m]))) := by
  have s : Stp ρ st H ρ (st.set n (.lr (xs ++ [m]))) (L2.upd H (ρ n) (.lst (xs.map (fun n => V.ref (ρ n)) ++ [.ref (ρ m)]))) := Stp.upd hn rfl (fun _ _ => ⟨_, rfl⟩) (fun _ _ z => nomatch z) (fun _ _ z => nomatch z) S
  obtain ⟨w, _, f2⟩ := S.ob n _ hn
  refine ⟨s, S.upd hn s ⟨by simp, fun k hk => ?_⟩⟩
  rw [List.length_set]
  rcases List.mem_append.mp hk with hk | hk
  · exact f2.2 k hk
  · rw [List.mem_singleton.mp hk]; exact hm
/-- o.append(v), by the store -/
theorem appV_ok {o v : Vl} {st' : Sr} {x y : V} (S : RelS K O ρ H st) (h : appV o v st = some st') (ro : Rep K O ρ st H o x) (rv : Rep K O ρ st H v y) :
    ∃ l vs, x = .ref l ∧ H l = some (.lst vs) ∧ vs.length < sizeLine ∧ Stp ρ st H ρ st' (L2.upd H l (.lst (vs ++ [y]))) ∧ RelS K O ρ (L2.upd H l (.lst (vs ++ [y]))) st' := by
  cases o with
  | p d => cases h
  | r n =>
    obtain ⟨hn, rfl⟩ := ro
    simp only [appV] at h
    have lt : ∀ {k : Nat}, k < lim → k < sizeLine := fun {k} hk => Nat.lt_of_lt_of_le hk (by decide +kernel)
    split at h
    · rename_i xs m q
      split at h
      · rename_i hz
        cases h
        obtain ⟨hm, rfl⟩ := rv
        obtain ⟨w, f1, rfl, f2⟩ := S.ob n _ q
        exact ⟨_, _, rfl, f1, by rw [List.length_map]; exact lt hz, refs_upd S q hm⟩
      · cases h
    · rename_i ys q
      split at h
      · rename_i d s1 q1
        split at h
        · rename_i xs q2
          split at h
          · rename_i hz
            cases h
            obtain ⟨a1, a2, a3⟩ := toP_ok S q1 rv
            obtain ⟨w, f1, vs, rfl, f2⟩ := a2.ob n _ q2
            obtain ⟨b1, b2⟩ := plain_upd a2 q2 (f2.app (.cons a3 .nil))
            exact ⟨_, vs, rfl, f1, by rw [← f2.len]; exact lt hz, a1.trans S a2 b1, b2⟩
          · cases h
        · cases h
      · cases h
    · cases h
/-- o[i] = v, by the store -/
theorem setIx_ok {o i v : Vl} {st' : Sr} {x y u : V} (S : RelS K O ρ H st) (h : setIx o i v st = some st') (ro : Rep K O ρ st H o x) (ri : Rep K O ρ st H i y) (rv : Rep K O ρ st H v u) :
    ∃ l vs k j, x = .ref l ∧ y = .int k ∧ H l = some (.lst vs) ∧ L2.ixN vs.length k = some j ∧ Stp ρ st H ρ st' (L2.upd H l (.lst (vs.set j u))) ∧ RelS K O ρ (L2.upd H l (.lst (vs.set j u))) st' := by
  cases o with
  | p d => cases h
  | r n =>
    obtain ⟨hn, rfl⟩ := ro
    simp only [setIx] at h
    split at h
    · rename_i xs k q
      split at h
      · rename_i j d s1 q1 q2
        split at h
        · rename_i ys q3
          cases h
          obtain ⟨a1, a2, a3⟩ := toP_ok S q2 rv
          obtain ⟨w, f1, vs, rfl, f2⟩ := a2.ob n _ q3
          obtain ⟨b1, b2⟩ := plain_upd a2 q3 (f2.set a3 j)
          obtain ⟨w', g1, vs', rfl, g2⟩ := S.ob n _ q
          rw [f1] at g1
          cases g1
          exact ⟨_, vs, k, j, rfl, RepP.int_inv ri, f1, by rw [← g2.len]; exact q1, a1.trans S a2 b1, b2⟩
        · cases h
      · cases h
    · cases h
end
section
variable {C : Cx} {W : Nat → Option Addr → Hp → Prop} {a b c : Expr} {es : List Expr} {fa fb fc : En → Sr → R Vl} {fs : En → Sr → R (List Vl)} {pos : Pos}
theorem xApp {T0 T1 : T} {p0 : Pos} (hb : ∀ (nm : Str), attributeBase (toE T0) nm C.env (eval (toE T0) C.env) = eval (toE T0) C.env) (hl : (p0.endLine == pos.line) = true) (ho : PE C (toE T0) (TrE C.K W fa)) (hx : PE C (toE T1) (TrE C.K W fb)) :
    PE C (.Call (.Attribute (toE T0) "append" p0) [toE T1] [] pos) (TrE C.K W fun e s => (fa e s).bd fun o s => if isL o s = true then (fb e s).bd fun v s => R.of ((appV o v s).map fun _ => Vl.p .none) ((appV o v s).getD s) else .no) :=
  imE (L2.pe_bm F.plainAttrs_list F.slot_list_append PySem.F.type_list_append L2.mt_append ho (L2.pa_cons hx L2.pa_nil (star_cons _ _ _)) (hb _) (by rw [star_cons]; rfl) hl (star_cons _ _ _)) fun σ H Q ⟨O, ρ, e, st, R, h⟩ =>
    ⟨O, ρ, e, st, R, End.bd R.S h fun x st1 ρ1 H1 v _ s1 S1 r1 h1 => by
      have fin : ∀ {x2 : Vl} {st2 : Sr} {ρ2 : Nat → Addr} {H2 : Hp} {u : V}, Stp ρ1 st1 H1 ρ2 st2 H2 → RelS C.K O ρ2 H2 st2 → Rep C.K O ρ2 st2 H2 x2 u → End C.K W O (RpV C.K O) ρ2 st2 H2 (Mi.R.of ((appV x x2 st2).map fun _ => Vl.p .none) ((appV x x2 st2).getD st2)) Q → L2.rAppend v [u] H2 Q := by
        intro x2 st2 ρ2 H2 u s2 S2 r2 h2
        cases q : appV x x2 st2 with
        | none => rw [q] at h2; exact h2.elim
        | some st' =>
          rw [q] at h2
          obtain ⟨l, vs, e1, e2, e3, t1, t2⟩ := appV_ok S2 q (Rep.stp S1 s2 r1) r2
          exact ⟨l, vs, u, e1, rfl, e2, e3, h2 ρ2 _ _ t1 t2 .non⟩
      split at h1
      · rename_i hx
        refine ⟨?_, O, ρ1, e, st1, R.go s1 S1, End.bd S1 h1 fun y st2 ρ2 H2 u _ s2 S2 r2 h2 => fin s2 S2 r2 h2⟩
        cases x with
        | p d => cases hx
        | r n =>
          obtain ⟨hn, rfl⟩ := r1
          obtain ⟨w, f1, f2⟩ := S1.ob n st1[n] (by simp [hn])
          cases q : st1[n] with
          | lp z xs => rw [q] at f2; obtain ⟨vs, rfl, _⟩ := f2; exact .inl ⟨rfl, vs, .of f1⟩
          | lr xs => rw [q] at f2; obtain ⟨rfl, _⟩ := f2; exact .inl ⟨rfl, _, .of f1⟩
          | dp z kvs =>
            have e : st1[n]? = some (.dp z kvs) := by rw [← q]; simp [hn]
            simp [e] at hx
          | no => rw [q] at f2; exact f2.elim
      · exact h1.elim⟩
/-! ### targets -/
theorem gNm {i : Nat} {x : Str} (hN : C.N.Nodup) (hi : C.N[i]? = some x) (hx : Loc C.env.scope x) (hf : C.fn x = true ∨ C.env.scope.names.lookup x = some .local) : PG C (.Name x pos) (TrG C.K W (kV i)) :=
  imG (L2.pg_name hN hi hx hf) fun v σ H Q ⟨O, ρ, e, st, w, R, r, h⟩ => h ρ _ H .rfl ⟨R.S, R.E.set r i⟩
theorem gIx {T0 T1 : T} (ha : PE C (toE T0) (TrE C.K W fa)) (hb : PE C (toE T1) (TrE C.K W fb))
    (hs : ∀ v, assign (.Subscript (toE T0) (toE T1) pos) C.env v = (do
      let ov ← holding [v] (eval (toE T0) C.env)
      let iv ← holding [v, ov] (eval (toE T1) C.env)
      standAt pos
      holding [v, ov, iv] (setItem ov iv v)
      release [v, ov, iv] [])) : PG C (.Subscript (toE T0) (toE T1) pos) (TrG C.K W fun v e s => (fa e s).bx fun o s => (fb e s).bx fun i s =>
        match setIx o i v s with
        | some s => .nx e s
        | none => .no) :=
  imG (L2.pg_sub ha hb L2.set_list hs) fun v σ H Q ⟨O, ρ, e, st, w, R, r, h⟩ => ⟨O, ρ, e, st, R, End.bx R.S h fun x st1 ρ1 H1 u _ s1 S1 r1 h1 => ⟨O, ρ1, e, st1, R.go s1 S1, End.bx S1 h1 fun y st2 ρ2 H2 z _ s2 S2 r2 h2 => by
    cases q : setIx x y w st2 with
    | none => rw [q] at h2; exact h2.elim
    | some st' =>
      rw [q] at h2
      obtain ⟨l, vs, k, j, e1, e2, e3, e4, t1, t2⟩ := setIx_ok S2 q (Rep.stp S1 s2 r1) r2 (Rep.stp S1 s2 (Rep.stp R.S s1 r))
      exact ⟨l, vs, k, j, e1, e2, e3, e4, h2 ρ2 σ _ t1 ⟨t2, (((R.go s1 S1).go s2 S2).go t1 t2).E⟩⟩⟩⟩
theorem gsNil : PGs C [] (TrGs C.K W ksNil) := imGs L2.pgs_nil fun v σ H Q ⟨O, ρ, e, st, w, R, r, h⟩ => by
  cases r with
  | nil => exact ⟨rfl, h ρ σ H .rfl R⟩
  | cons _ _ => exact h.elim
theorem gsCons {T0 : T} {es : List Expr} {fk : Vl → En → Sr → X} {fks : List Vl → En → Sr → X} (ha : PG C (toE T0) (TrG C.K W fk)) (hb : PGs C es (TrGs C.K W fks)) (hs : (assignEach (toE T0 :: es) C.env).map (·.2) = assign (toE T0) C.env :: (assignEach es C.env).map (·.2)) :
    PGs C (toE T0 :: es) (TrGs C.K W fun vs e s => match vs with
      | v :: r => (fk v e s).th fun e s => fks r e s
      | [] => .no) := imGs (L2.pgs_cons ha hb hs) fun v σ H Q ⟨O, ρ, e, st, w, R, r, h⟩ => by
  cases r with
  | nil => exact h.elim
  | @cons x xs v vs r rs =>
    refine ⟨v, vs, rfl, O, ρ, e, st, x, R, r, ?_⟩
    simp only at h
    cases q : fk x e st with
    | nx e' st' => rw [q] at h; exact fun ρ' σ' H' s' R' => ⟨O, ρ', e', st', xs, R', rs.stp R.S s', EndS.later (show EndS C.K W O ρ st H (fks xs e' st') _ from h) R.S R'.S s'⟩
    | ex c x s' => rw [q] at h; exact h
    | no => rw [q] at h; exact h.elim
    | rt a s' => rw [q] at h; exact h
    | bk e' s' => rw [q] at h; exact h
    | ct e' s' => rw [q] at h; exact h
theorem gTup {k n : Nat} {es : List Expr} {fks : List Vl → En → Sr → X} (hc : C.calm = true) (ha : PGs C es (TrGs C.K W fks)) (hn : (assignEach es C.env).length = n) (hst : (assignEach es C.env).findIdx? (·.1) = none) :
    PG C (.Tuple es k pos) (TrG C.K W fun v e s => match outOf v s with
      | some vs => if vs.length = n then fks vs e s else .no
      | none => .no) := imG (L2.pg_tup hc ha hn hst) fun v σ H Q ⟨O, ρ, e, st, w, R, r, h⟩ => by
  cases w with
  | r m => exact h.elim
  | p d =>
    cases d with
    | tuple xs =>
      obtain ⟨a, vs, rfl, h1, h2⟩ := RepP.tup_inv r
      have h' : EndS C.K W O ρ st H (if (xs.map Vl.p).length = n then fks (xs.map .p) e st else .no) { nx := Q, rt := fun _ _ => False } := h
      by_cases q : (xs.map Vl.p).length = n
      · rw [if_pos q] at h'
        exact ⟨a, vs, rfl, h1, by rw [← q, List.length_map, h2.len], O, ρ, e, st, xs.map .p, R, h2.reps, h'⟩
      · rw [if_neg q] at h'
        exact h'.elim
    | _ => exact h.elim
/-! ### statements -/
theorem sNil : PSs C [] (TrS C.K W fun e s => .nx e s) := imSs L2.pss_nil fun D σ H ⟨O, ρ, e, st, R, h⟩ => h ρ σ H .rfl R
theorem sCons {x : Stmt} {xs : List Stmt} {f g : En → Sr → X} (ha : PS C x (TrS C.K W f)) (hb : PSs C xs (TrS C.K W g)) : PSs C (x :: xs) (TrS C.K W fun e s => (f e s).th g) :=
  imSs (L2.pss_cons ha hb) fun D σ H ⟨O, ρ, e, st, R, h⟩ => by
    refine ⟨O, ρ, e, st, R, ?_⟩
    dsimp only at h
    cases q : f e st with
    | nx e' st' => rw [q] at h; exact fun ρ' σ' H' s' R' => ⟨O, ρ', e', st', R', EndS.later (show EndS C.K W O ρ st H (g e' st') D from h) R.S R'.S s'⟩
    | ex c x s' => rw [q] at h; exact h
    | no => rw [q] at h; exact h.elim
    | rt a s' => rw [q] at h; exact h
    | bk e' s' => rw [q] at h; exact h
    | ct e' s' => rw [q] at h; exact h
theorem sPass : PS C (.Pass pos) (TrS C.K W fun e s => .nx e s) := imS L2.ps_pass fun D σ H ⟨O, ρ, e, st, R, h⟩ => h ρ σ H .rfl R
theorem sBreak : PS C (.Break pos) (TrS C.K W fun e s => .bk e s) := imS L2.ps_break fun D σ H ⟨O, ρ, e, st, R, h⟩ => h ρ σ H .rfl R
theorem sCont : PS C (.Continue pos) (TrS C.K W fun e s => .ct e s) := imS L2.ps_continue fun D σ H ⟨O, ρ, e, st, R, h⟩ => h ρ σ H .rfl R
theorem sRet (ha : PE C a (TrE C.K W fa)) : PS C (.Return (some a) pos) (TrS C.K W fun e s => (fa e s).bx fun v s => .rt v s) :=
  imS (L2.ps_ret ha) fun D σ H ⟨O, ρ, e, st, R, h⟩ => ⟨O, ρ, e, st, R, End.bx R.S h fun x st1 ρ1 H1 u _ s1 S1 r1 h1 => h1 ρ1 H1 u .rfl S1 r1⟩
theorem sExp (ha : PE C a (TrE C.K W fa)) (hs : swapsWith a none pos.line C.env = pure false) : PS C (.Expr a pos) (TrS C.K W fun e s => (fa e s).bx fun _ s => .nx e s) :=
  imS (L2.ps_expr ha hs) fun D σ H ⟨O, ρ, e, st, R, h⟩ => ⟨O, ρ, e, st, R, End.bx R.S h fun x st1 ρ1 H1 u _ s1 S1 r1 h1 => h1 ρ1 σ H1 .rfl (R.go s1 S1)⟩
theorem sIfS {c : Expr} {xs ys : List Stmt} {ft : En → Sr → R Bool} {f g : En → Sr → X} (hc : PT C c (TrT C.K W ft)) (ha : PSs C xs (TrS C.K W f)) (hb : PSs C ys (TrS C.K W g)) : PS C (.If c xs ys pos) (TrS C.K W fun e s => (ft e s).bx fun k s => if k then f e s else g e s) :=
  imS (L2.ps_if hc ha hb) fun D σ H ⟨O, ρ, e, st, R, h⟩ => ⟨O, ρ, e, st, R, End.bx R.S h fun x st1 ρ1 H1 v _ s1 S1 r1 h1 => by
    cases (show x = v from r1)
    cases x with
    | true => exact ⟨O, ρ1, e, st1, R.go s1 S1, h1⟩
    | false => exact ⟨O, ρ1, e, st1, R.go s1 S1, h1⟩⟩
theorem sAsg {tg : Expr} {fk : Vl → En → Sr → X} (ha : PE C a (TrE C.K W fa)) (hg : PG C tg (TrG C.K W fk)) (hs : swapsWithSole [tg] a pos.line C.env = pure false) (hw : swappedStores [tg] a C.env = pure none) (h1 : (assignEach [tg] C.env).map (·.2) = [assign tg C.env])
    (hk : ∀ v e s e' s', fk v e s ≠ .bk e' s' ∧ fk v e s ≠ .ct e' s' ∧ ∀ w, fk v e s ≠ .rt w s') : PS C (.Assign [tg] a pos) (TrS C.K W fun e s => (fa e s).bx fun v s => fk v e s) :=
  imS (L2.ps_asg ha hg hs hw h1) fun D σ H ⟨O, ρ, e, st, R, h⟩ => ⟨O, ρ, e, st, R, End.bx R.S h fun x st1 ρ1 H1 v _ s1 S1 r1 h1 => ⟨O, ρ1, e, st1, x, R.go s1 S1, r1, by
    cases q : fk x e st1 with
    | nx e' st' => rw [q] at h1; exact h1
    | ex c x s' => rw [q] at h1; exact h1
    | no => rw [q] at h1; exact h1.elim
    | rt a s' => exact absurd q ((hk _ _ _ e s').2.2 a)
    | bk e' s' => exact absurd q (hk _ _ _ e' s').1
    | ct e' s' => exact absurd q (hk _ _ _ e' s').2.1⟩⟩
/-! aug -/
theorem opAug (o : Operator) : OpR C (inplaceOp o) (fun x y H Q => ∃ (m : Addr → Prop) (a b c : P), RdP C.K m H a x ∧ RdP C.K m H b y ∧ augP o a b = some c ∧ ∀ v, (∀ m H, RepP C.K m H c v) → Q v H) := by
  intro pins s σ H x y v u Q I rx ry ⟨m, a, b, c, ra, rb, e, k⟩
  cases o with
  | Add =>
    cases a with
    | int i =>
      cases b with
      | int j => cases e; exact L2.iop_add pins s σ H x y v u Q I rx ry ⟨i, j, ra.int, rb.int, k _ fun _ _ => .int _⟩
      | _ => simp [augP] at e
    | _ => simp [augP] at e
  | Sub =>
    cases a with
    | int i =>
      cases b with
      | int j => cases e; exact L2.iop_sub pins s σ H x y v u Q I rx ry ⟨i, j, ra.int, rb.int, k _ fun _ _ => .int _⟩
      | _ => simp [augP] at e
    | _ => simp [augP] at e
  | Mult =>
    cases a with
    | int i =>
      cases b with
      | int j =>
        simp only [augP] at e
        split at e
        · rename_i hm
          cases e
          cases ra.int
          cases rb.int
          obtain ⟨t, rfl⟩ := rx
          obtain ⟨t', rfl⟩ := ry
          exact PyProof.Rows.imul_int ⟨.int _, H, I.tok _, ⟨_, rfl⟩, k _ fun _ _ => .int _⟩ (mul_ok hm)
        · cases e
      | _ => simp [augP] at e
    | _ => simp [augP] at e
  | _ => simp [augP] at e
theorem sAug {i : Nat} {x : Str} {o : Operator} {pos' : Pos} (hN : C.N.Nodup) (hi : C.N[i]? = some x) (hx : Loc C.env.scope x) (hf : C.fn x = true ∨ C.env.scope.names.lookup x = some .local) (ha : PE C a (TrE C.K W fa)) :
    PS C (.AugAssign (.Name x pos') o a pos) (TrS C.K W fun e s => (eV i e s).bx fun v s => (fa e s).bx fun w s =>
      match agV o v w s with
      | some c => kV i (.p c) e s
      | none => .no) :=
  imS (L2.ps_aug hN hi hx ha (fun pins s σ H x y v u Q I r1 r2 h => opAug o pins s σ H x y v u Q I r1 r2 h) hf) fun D σ H ⟨O, ρ, e, st, R, h⟩ => by
    unfold eV at h
    dsimp only at h
    split at h
    · rename_i v e1
      obtain ⟨u, h1, h2⟩ := R.E.sl i v e1
      refine ⟨u, h1, O, ρ, e, st, R, End.bx R.S (show EndS C.K W O ρ st H ((fa e st).bx _) D from h) fun y st1 ρ1 H1 w _ s1 S1 r1 h1 => ?_⟩
      have r2 := Rep.stp R.S s1 h2
      cases v with
      | r n => exact h1.elim
      | p d =>
        simp only [agV] at h1
        cases q : dd y st1 with
        | none => rw [q] at h1; exact h1.elim
        | some b =>
          rw [q] at h1
          dsimp only at h1
          cases q2 : augP o d b with
          | none => rw [q2] at h1; exact h1.elim
          | some c =>
            rw [q2] at h1
            exact ⟨Mt O ρ1 st1, d, b, c, .of r2, dd_rd S1 r1 q, q2, fun v hv => h1 ρ1 _ H1 .rfl ⟨S1, RelE.set (x := .p c) (R.go s1 S1).E (hv _ _) i⟩⟩
    · exact h.elim
def rGetL (K : Fg) : V → V → Hp → VK → Prop := fun x y H Q => ∃ p xs i v, x = .ref p ∧ y = .int i ∧ SqL K H p xs ∧ L2.atI xs i = some v ∧ Q v H
theorem pGet : L2.PGet C (rGetL C.K) := by
  intro pins s σ H o i ov iv Q I ro ri ⟨p, xs, k, z, e1, e2, hq, he, q⟩
  subst e1 e2
  cases ro
  obtain ⟨t, rfl⟩ := ri
  obtain ⟨its, r, pl, hz⟩ := I.list hq
  obtain ⟨j, h1, h2, h3, h4, h5⟩ := L2.atI_get he
  obtain ⟨w, ew, rw'⟩ := r.get h2
  have hl := r.length
  have hn := L2.line63
  have fin : EP C pins σ Q w s := ⟨z, H, I, rw', q⟩
  by_cases h0 : 0 ≤ k
  · have hj : k.toNat = j := by
      rw [PySem.seqIndex_of h0 h5] at h1
      exact Option.some.inj h1
    exact wpAny_getItem_list pl.isList h0 (by omega) (by rw [hj]; simpa using ew) fin
  · have hj : (k + (its.toArray.size : Int)).toNat = j := by
      rw [PySem.seqIndex_neg (by omega) h4] at h1
      rw [List.size_toArray, ← hl]
      exact Option.some.inj h1
    exact wpAny_getItem_list_neg pl.isList (by omega) (by rw [List.size_toArray] <;> omega) (by omega) (by rw [hj]; simpa using ew) fin
theorem ixV_ref {O : Addr → Prop} {ρ : Nat → Addr} {st : Sr} {H : Hp} {n : Nat} {i v : Vl} {st' : Sr} {x y : V} (S : RelS C.K O ρ H st) (h : ixV (.r n) i st = .ok v st') (ro : Rep C.K O ρ st H (.r n) x) (ri : Rep C.K O ρ st H i y) :
    st' = st ∧ ∃ l vs k w, x = .ref l ∧ y = .int k ∧ SqL C.K H l vs ∧ L2.atI vs k = some w ∧ Rep C.K O ρ st H v w := by
  refine ⟨(ixO_ok h).2, ?_⟩
  obtain ⟨hn, rfl⟩ := ro
  unfold ixV at h
  split at h
  · rename_i j hj
    have hi := (dd_rd S ri hj).int
    subst hi
    dsimp only at h
    split at h
    · rename_i z xs hst
      cases hx : L2.atI xs j with
      | none => rw [hx] at h; cases h
      | some d =>
        rw [hx] at h
        cases h
        obtain ⟨h, e1, vs, rfl, r⟩ := S.ob n _ hst
        obtain ⟨n', h1, h2⟩ := atI_some hx
        obtain ⟨z, h3, h4⟩ := r.get h1
        exact ⟨_, vs, j, z, rfl, rfl, .of e1, by rw [h2 vs r.len.symm, h3], h4⟩
    · rename_i xs hst
      cases hx : L2.atI xs j with
      | none => rw [hx] at h; cases h
      | some d =>
        rw [hx] at h
        cases h
        obtain ⟨h, e1, rfl, r⟩ := S.ob n _ hst
        obtain ⟨n', h1, h2⟩ := atI_some hx
        refine ⟨_, _, j, .ref (ρ d), rfl, rfl, .of e1, ?_, r d (List.mem_of_getElem? h1), rfl⟩
        rw [h2 (xs.map fun n => V.ref (ρ n)) (by simp)]
        simp [h1]
    · cases h
  · cases h
theorem sAgIx {T0 T1 : T} {o : Operator} {q : Pos} (ha : PE C (toE T0) (TrE C.K W fa)) (hb : PE C (toE T1) (TrE C.K W fb)) (hc : PE C c (TrE C.K W fc))
    (hs : ∀ ov iv new, augStore (toE T1) ov iv new = (do holding [new, ov, iv] (setItem ov iv new); release [new, ov, iv] []; pure .next)) :
    PS C (.AugAssign (.Subscript (toE T0) (toE T1) q) o c pos) (TrS C.K W fun e s => (fa e s).bx fun l s => (fb e s).bx fun i s => if isR l then (ixV l i s).bx fun v s => (fc e s).bx fun w s =>
      match agV o v w s with
      | some c => match setIx l i (.p c) s with
        | some s => .nx e s
        | none => .no
      | none => .no
      else .no) :=
  imS (L2.ps_augS ha hb pGet hc (fun pins s σ H x y v u Q I r1 r2 h => opAug o pins s σ H x y v u Q I r1 r2 h) L2.set_list hs) fun D σ H ⟨O, ρ, e, st, R, h⟩ => ⟨O, ρ, e, st, R, End.bx R.S h fun x st1 ρ1 H1 v _ s1 S1 r1 h1 => ⟨O, ρ1, e, st1, R.go s1 S1, End.bx S1 h1 fun y st2 ρ2 H2 u _ s2 S2 r2 h2 => by
    cases x with
    | p d => exact h2.elim
    | r n =>
      rw [if_pos (show isR (.r n) = true from rfl)] at h2
      cases q : ixV (.r n) y st2 with
      | ex a b s' => exact absurd q ixV_ex
      | no => rw [q] at h2; exact h2.elim
      | ok w s' =>
        rw [q] at h2
        have r1' := Rep.stp S1 s2 r1
        obtain ⟨rfl, l, vs, k, z, e1, e2, e3, e4, e5⟩ := ixV_ref S2 q r1' r2
        subst e1 e2
        refine ⟨l, vs, k, z, rfl, rfl, e3, e4, O, ρ2, e, s', (R.go s1 S1).go s2 S2, End.bx S2 (show EndS C.K W O ρ2 s' H2 ((fc e s').bx _) D from h2) fun y3 st3 ρ3 H3 u3 _ s3 S3 r3 h3 => ?_⟩
        cases q1 : agV o w y3 st3 with
        | none => rw [q1] at h3; exact h3.elim
        | some cc =>
          rw [q1] at h3
          dsimp only at h3
          cases q2 : setIx (.r n) y (.p cc) st3 with
          | none => rw [q2] at h3; exact h3.elim
          | some st4 =>
            rw [q2] at h3
            unfold agV at q1
            split at q1
            · rename_i a b q4
              refine ⟨Mt O ρ3 st3, a, b, cc, .of (Rep.stp S2 s3 e5), dd_rd S3 r3 q4, q1, fun v5 hv => ?_⟩
              obtain ⟨l', vs', k', j, e6, e7, e8, e9, t1, t2⟩ := setIx_ok (v := .p cc) (u := v5) S3 q2 (Rep.stp S2 s3 r1') (Rep.stp S2 s3 r2) (hv _ _)
              exact ⟨l', vs', k', j, e6, e7, e8, e9, h3 ρ3 σ _ t1 ⟨t2, ((((R.go s1 S1).go s2 S2).go s3 S3).go t1 t2).E⟩⟩
            · cases q1⟩⟩
end
end Mi
end
section
set_option Elab.async false
set_option linter.all false
set_option maxRecDepth 100000
set_option maxHeartbeats 2000000
/-! N0: enumerate over a tuple. -/
namespace Mi
open PySem
open L2 (V HO Hp upd upd_same upd_ne SqL SqT Rd Cx Inv PE PT PA PS PSs PG PGs PI TE TT TA TS TG TGs TI It VK XK Ends RelV Vals ne_of_none OpR R2 EP CallR UnR IxR SlR TruR Gl Vis Loc Turn PIE)
theorem enT_new (c : Addr) (its : Array Value) (k : Nat) (dc : Option Addr) (sl : Array (Option Value)) :
    Meets (Builtin.«enumerate.__new__» ⟨[.type "enumerate", .ref c], []⟩) (fun _ R s => s.heap.get? c = some { cls := .type "tuple", dict := dc, data := .seq its k, slots := sl } ∧
      R (.ok (.ret (.ref (s.heap.push { cls := .type "tuple_iterator", data := .fields #[.ref c, .int 0 0] }).objs.size)))
        { s with heap := (s.heap.push { cls := .type "tuple_iterator", data := .fields #[.ref c, .int 0 0] }).push { cls := .type "enumerate", data := .fields #[.none, .bool false, .ref s.heap.objs.size, rawInt 0, .none, .none] } }) :=
  .of_wp fun prog w A R s h => by
    obtain ⟨hp, g, d, tk, os⟩ := s
    obtain ⟨hc, h⟩ := h
    have hT : Heap.IsTuple hp c its := ⟨_, hc, rfl, k, rfl⟩
    have hsub := sub_enumerate
    wp_walk using wpAny_loadPart' hc
    refine wpAny_stack_any fun st => wpAny_pure ?_
    split
    · rename_i z _ _ _ _ _
      cases (z == Value.type "enumerate")
      · wp_walk using wpAny_loadPart' hc, wpAny_pyIter_tuple hT
        exact ⟨_, rfl, h⟩
      · wp_walk using wpAny_loadPart' hc, wpAny_pyIter_tuple hT
        exact ⟨_, rfl, h⟩
    · wp_walk using wpAny_loadPart' hc, wpAny_pyIter_tuple hT
      exact ⟨_, rfl, h⟩
theorem call_enT {prog : Program} {w : World} {A : Around} {E : Value → Shared → Prop} {s : Shared} {c : Addr} {its : Array Value} {Q : Value → Shared → Prop} (hT : s.heap.IsTuple c its)
    (h : ∀ h', IsEnum h' (s.heap.objs.size + 1) s.heap.objs.size 0 .none → h'.IsTupleIter s.heap.objs.size c 0 → (∀ b o, s.heap.get? b = some o → h'.get? b = some o) → Q (.ref (s.heap.objs.size + 1)) { s with heap := h' }) :
    wpAny (model prog w) A (call (.type "enumerate") [.ref c]) Q E s := by
  obtain ⟨⟨z, dc, dt, sl⟩, hl, hc, k, hd⟩ := hT
  replace hc : z = .type "tuple" := hc
  replace hd : dt = .seq its k := hd
  subst hc hd
  refine callType_new F.called_enumerate (by decide) (F.typeCall_enumerate_1 _) (F.newCall_enumerate_1 _) (fun obj => F.args_object_init_2 obj _) F.entry_enumerate_new (enT_new c its k dc sl) ⟨hl, ?_⟩
  have hz : (s.heap.push { cls := .type "tuple_iterator", data := .fields #[.ref c, .int 0 0] }).objs.size = s.heap.objs.size + 1 := Heap.size_push ..
  show _ ∧ _
  rw [hz]
  have he : IsEnum ((s.heap.push { cls := .type "tuple_iterator", data := .fields #[.ref c, .int 0 0] }).push { cls := .type "enumerate", data := .fields #[.none, .bool false, .ref s.heap.objs.size, rawInt 0, .none, .none] }) (s.heap.objs.size + 1) s.heap.objs.size 0 .none := by
    have q := Heap.get?_push_size (s.heap.push { cls := .type "tuple_iterator", data := .fields #[.ref c, .int 0 0] }) (o := { cls := .type "enumerate", data := .fields #[.none, .bool false, .ref s.heap.objs.size, rawInt 0, .none, .none] }) rfl
    rw [hz] at q
    exact q
  exact ⟨⟨_, he, rfl⟩, h _ he ⟨_, Heap.get?_push_of_some _ (Heap.get?_push_size _ rfl), rfl, rfl⟩ fun b o x => Heap.get?_push_of_some _ (Heap.get?_push_of_some _ x)⟩
/-- the tuple at a, each item in a new pair -/
def EnT (K : Fg) (a : Addr) : It :=
  ⟨fun i H => ∃ (ys : List V) (y : V), SqT K H a ys ∧ ys[i]? = some y, fun i H v H' => ∃ p y, v = .ref p ∧ H p = none ∧ H' = upd H p (.tup [.int (i : Nat), y]) ∧ ∀ ys, SqT K H a ys → ys[i]? = some y, fun i H => ∃ ys : List V, SqT K H a ys ∧ ys.length ≤ i⟩
theorem pn_end {prog : Program} {w : World} {A : Around} {E : Value → Shared → Prop} {s : Shared} {e it c : Addr} {j : Nat} {k : Int} {its : Array Value} {old : Value} {Q : Option Value → Shared → Prop} (hh : A.handled = none)
    (he : IsEnum s.heap e it k old) (hit : s.heap.IsTupleIter it c j) (hT : s.heap.IsTuple c its) (hx : its[j]? = none) (hQ : ∀ h', Heap.ExtBut it s.heap h' → Q none { s with heap := h' }) : wpAny (model prog w) A (pyNext (.ref e)) Q E s := by
  have ty : s.TypeIs (.ref e) "enumerate" := ⟨_, he, rfl⟩
  unfold pyNext
  refine wpAny_bind (wpAny_attempt (wpAny_callSpecial?_slot (name := Str.ofString "__next__") ty F.slot_enumerate_next (wpAny_call_entry F.slot_enumerate_next ty F.entry_enumerate_next ?_ (F.args_enumerate_next_1 _))))
  show wpAny _ _ (field (.ref e) 2 >>= _) _ _ _
  refine wpAny_bind (wpAny_field he rfl (x := .ref it) rfl ?_)
  refine wpAny_bind (wpAny_nextOf_tuple_end hh hit hT hx fun h' x he' hx' => ?_)
  obtain ⟨o, ho, hc⟩ := hx'
  exact wpAny_bind (wpAny_isInstance (T := "StopIteration") (b := true) ⟨o, ho, hc⟩ isSubtype_stop (wpAny_pure (hQ _ he')))
theorem turn_enT {Pr : Program} {w : World} {K : Fg} {elts : List Expr} {kk : Nat} {tpos : Pos} (a e it : Addr) :
    Turn Pr w K (.Tuple elts kk tpos) (EnT K a) [e, it] e (fun i h => (∃ old, IsEnum h e it ((i : Nat) : Int) old) ∧ h.IsTupleIter it a i ∧ e ≠ it) where
  mem := by simp
  obj := fun i h st b hb => by
    obtain ⟨⟨old, he⟩, ⟨o, ho, hc, hd⟩, _⟩ := st
    have e' : b = e ∨ b = it := by simpa using hb
    rcases e' with rfl | rfl
    · exact ⟨_, he, fun v q => nomatch q⟩
    · exact ⟨o, ho, fun v q => by rw [hd] at q; cases q⟩
  keep := fun i h h' st k => let ⟨⟨old, he⟩, hi, hne⟩ := st; ⟨⟨old, k e (by simp) _ he⟩, hi.at fun o q => k it (by simp) o q, hne⟩
  item := by
    intro X hP hw hK hc i pins s σ H E I hf st hg
    subst hP hw hK
    obtain ⟨⟨old, he⟩, hit, hne⟩ := st
    obtain ⟨ys, y, hq, hy⟩ := hg
    obtain ⟨its, rv, hT, hz⟩ := I.tuple hq
    obtain ⟨u, hu, ru⟩ := rv.get hy
    have hel : e < s.heap.objs.size := Heap.lt_size he
    have hil : it < s.heap.objs.size := by obtain ⟨_, q, _⟩ := hit; exact Heap.lt_size q
    have ne1 : a ≠ it := fun z => by
      obtain ⟨o, q1, q2, _⟩ := hit
      obtain ⟨o', q3, q4, _⟩ := hT
      rw [z, q1] at q3; cases q3; rw [q2] at q4; exact absurd (Value.type.inj q4) (by decide)
    have ne2 : a ≠ e := fun z => by
      obtain ⟨o', q3, q4, _⟩ := hT
      rw [z, show s.heap.get? e = _ from he] at q3; cases q3; exact absurd (Value.type.inj q4) (by decide)
    have hiu : i < its.length := (List.getElem?_eq_some_iff.mp hu).1
    refine wpAny_pyNext_enum_itemC (Draws.tuple (A := X.A.in1) (show X.A.in1.handled = none from I.ok.hd hc) it a ne1 its.toArray) (i := i) he ⟨hit, hT⟩ (by simpa using hiu) hne (by simpa using ⟨hne, fun z => ne2 z.symm⟩) fun x h' tk hx ho st' hTn hsz hk => ?_
    obtain ⟨hit', _⟩ := st'
    obtain rfl : x = u := by
      have q : its[i]? = some x := by simpa using hx
      rw [hu] at q
      exact (Option.some.inj q).symm
    refine ⟨_, rfl, wpAny_letOwnedTupleGo_enum (s := { s with heap := h', toks := tk + 1 }) ho fun h'' he' sb => ?_⟩
    have hT2 : h''.get? s.heap.objs.size = some { cls := .type "tuple", data := .seq #[.int i tk, x] } := (sb.2 _ (Nat.ne_of_gt hel)).trans hTn
    have new : L2.ObjOk X.prog X.w (upd H s.heap.objs.size (.tup [.int (i : Nat), y])) h'' s.heap.objs.size (.tup [.int (i : Nat), y]) :=
      ⟨by show 2 ≤ sizeLine; decide, [.int i tk, x], .cons ⟨_, rfl⟩ (.cons ru .nil), ⟨_, hT2, rfl, _, rfl⟩⟩
    have I1 : Inv X pins σ (upd H s.heap.objs.size (.tup [.int (i : Nat), y])) { s with heap := h'', toks := tk + 1 } :=
      I.turnedNew (ch := [e, it]) (fun b ob hb q => (sb.2 b (fun z => hb (by simp [z]))).trans (hk b ob (fun z => hb (by simp [z])) (fun z => hb (by simp [z])) q)) hf (Nat.le_refl _) new
    refine ⟨.ref s.heap.objs.size, _, I1, rfl, ⟨_, y, rfl, I.hok.fresh (Nat.le_refl _), rfl, fun zs hzs => by rw [I.tuple_inj hzs hq]; exact hy⟩, ⟨⟨x, ?_⟩, hit'.at fun o q => (sb.2 it (Ne.symm hne)).trans q, hne⟩, fun b hb => ?_⟩
    · have e1 : ((i + 1 : Nat) : Int) = (i : Int) + 1 := by omega
      rw [e1]; exact he'
    · have hb' : b < s.heap.objs.size := by
        have e' : b = e ∨ b = it := by simpa using hb
        rcases e' with rfl | rfl
        · exact hel
        · exact hil
      rw [upd_ne (Nat.ne_of_lt hb')]
      exact (hf b hb).1
  done := by
    intro X hP hw hK hc i pins s σ H E I hf st hg
    subst hP hw hK
    obtain ⟨⟨old, he⟩, hit, hne⟩ := st
    obtain ⟨ys, hq, hle⟩ := hg
    obtain ⟨its, rv, hT, hz⟩ := I.tuple hq
    obtain ⟨f0, f1, f2, f3, f4, f5⟩ := hf it (by simp)
    have hl := rv.length
    refine pn_end (I.ok.hd hc) he hit hT (by simp; omega) fun h' eb => ⟨rfl, I.turned (t' := s.toks) (fun b o hb q => eb b o hb q) f0 f1 f3 f4 f5⟩
  self := fun A i s Q E st h => let ⟨⟨_, he⟩, _⟩ := st; wpAny_pyIter_enum he h
/-- enumerate(x), x a list or a tuple -/
def iEnB (K : Fg) (ta : TA) : TI := fun σ H R => ta σ H fun vs H1 => ∃ a, vs = [.ref a] ∧ ((∃ xs, SqL K H1 a xs ∧ R (L2.Ite K a) H1) ∨ ∃ xs, SqT K H1 a xs ∧ R (EnT K a) H1)
theorem pi_enB {X : Cx} {e : Expr} {ta : TA} {p pos tpos : Pos} {elts : List Expr} {kk : Nat} (hg : Gl X "enumerate") (hm : X.mg "enumerate" = none) (ha : PA X [e] ta) (hs : starEach [e] X.env = [(false, eval e X.env)]) :
    PI X (.Tuple elts kk tpos) (.Call (.Name "enumerate" p) [e] [] pos) (iEnB X.K ta) := by
  refine ⟨fun pins s σ H R I h => ?_⟩
  refine PyProof.Rows.Call_ (L2.ld_blt I hg hm PyProof.Rows.boot_enumerate (PyProof.Rows.callWith_type1 (L2.thn (ha.run pos pins s σ H _ I h) fun us s1 ⟨vs, H1, I1, r1, c, ex, q1⟩ => ?_) hs rfl))
  subst ex
  cases r1 with
  | cons r rr =>
    cases rr
    cases r
    have fps : ∀ b, b ∈ [s1.heap.objs.size + 1, s1.heap.objs.size] → L2.FpOk X pins H1 b := fun b hb => by
      have hle : s1.heap.objs.size ≤ b := by
        rcases (by simpa using hb : b = s1.heap.objs.size + 1 ∨ b = s1.heap.objs.size) with rfl | rfl
        · exact Nat.le_succ _
        · exact Nat.le_refl _
      exact I1.fpOk hle (I1.hok.fresh hle)
    rcases q1 with ⟨xs, hq, q⟩ | ⟨xs, hq, q⟩
    · obtain ⟨its, rv, hL, hz⟩ := I1.list hq
      refine call_enumerate_list hL.isList fun h' he hit hsz hk => wpAny_pyIter_enum he ?_
      exact ⟨s1.heap.objs.size + 1, [s1.heap.objs.size + 1, s1.heap.objs.size], _, _, H1, rfl, I1.kept (t' := s1.toks) hk, L2.turn_enum c (s1.heap.objs.size + 1) s1.heap.objs.size, ⟨⟨.none, he⟩, hit, Nat.succ_ne_self _⟩, fps, q⟩
    · obtain ⟨its, rv, hT, hz⟩ := I1.tuple hq
      refine call_enT hT fun h' he hit hk => wpAny_pyIter_enum he ?_
      exact ⟨s1.heap.objs.size + 1, [s1.heap.objs.size + 1, s1.heap.objs.size], _, _, H1, rfl, I1.kept (t' := s1.toks) hk, turn_enT c (s1.heap.objs.size + 1) s1.heap.objs.size, ⟨⟨.none, he⟩, hit, Nat.succ_ne_self _⟩, fps, q⟩
end Mi
end
section
set_option Elab.async false
set_option linter.all false
set_option maxRecDepth 100000
set_option maxHeartbeats 1000000
/-! M11: what is walked. -/
namespace Mi
open PySem
open L2 (V HO Hp upd upd_same upd_ne SqL SqT Rd Cx Inv PE PT PA PS PSs PG PGs PI TE TT TA TS TG TGs TI It VK XK Ends RelV Vals ne_of_none OpR R2 EP CallR UnR IxR SlR TruR Gl Vis Loc Itl Itt Itr)
section
variable {K : Fg} {O O' : Addr → Prop} {ρ : Nat → Addr} {σ : Sg} {H : Hp} {e : En} {st : Sr}
theorem sqL_inj {C : Cx} {pins : List (Addr × Obj)} {s : Shared} {a : Addr} {xs ys : List V} (I : Inv C pins σ H s) (h : SqL C.K H a xs) (h' : SqL C.K H a ys) : xs = ys := I.list_inj h h'
/-- a list of data, walked -/
theorem itL {a : Addr} {ds : List P} {vs : List V} (S : RelS K O ρ H st) (l : LsD K (Mt O ρ st) H a vs) (r : ReqP K (Mt O ρ st) H ds vs) : ItOk K O ρ st H (ds.map .p) (Itl K a) := by
  intro O' ρ' st' H' w s S' i
  have l' := l.go w s
  have r' := r.go S w s
  refine ⟨fun v hv => ?_, fun hi => ⟨vs, l'.sq, by simpa [r.len] using hi⟩⟩
  obtain ⟨d, hd, rfl⟩ : ∃ d, ds[i]? = some d ∧ Vl.p d = v := by simpa using hv
  obtain ⟨u, h1, h2⟩ := r'.get hd
  refine ⟨⟨vs, u, l'.sq, h1⟩, fun x H'' ⟨e1, e2⟩ => ?_⟩
  subst e1
  have := e2 vs l'.sq
  rw [h1] at this
  cases this
  exact ⟨.rfl, S', h2⟩
/-- a tuple, walked -/
theorem itT {a : Addr} {ds : List P} {vs : List V} (S : RelS K O ρ H st) (l : SqT K H a vs) (r : ReqP K (Mt O ρ st) H ds vs) : ItOk K O ρ st H (ds.map .p) (Itt K a) := by
  intro O' ρ' st' H' w s S' i
  have l' := s.tupK S l
  have r' := r.go S w s
  refine ⟨fun v hv => ?_, fun hi => ⟨vs, l', by simpa [r.len] using hi⟩⟩
  obtain ⟨d, hd, rfl⟩ : ∃ d, ds[i]? = some d ∧ Vl.p d = v := by simpa using hv
  obtain ⟨u, h1, h2⟩ := r'.get hd
  refine ⟨⟨vs, u, l', h1⟩, fun x H'' ⟨e1, e2⟩ => ?_⟩
  subst e1
  have := e2 vs l'
  rw [h1] at this
  cases this
  exact ⟨.rfl, S', h2⟩
theorem rng_len (c : Int) : ∀ (n : Nat) (lo : Int), (rng lo c n).length = n
  | 0, _ => rfl
  | n + 1, lo => by simp [rng, rng_len c n]
theorem rng_get (c : Int) : ∀ (n : Nat) (lo : Int) (i : Nat), i < n → (rng lo c n)[i]? = some (.int (lo + i * c))
  | 0, _, _, h => by omega
  | n + 1, lo, 0, _ => by simp [rng]
  | n + 1, lo, i + 1, h => by
    simp only [rng, List.getElem?_cons_succ]
    rw [rng_get c n (lo + c) i (by omega)]
    congr 2
    rw [Int.natCast_succ, Int.add_mul]
    omega
theorem itR {lo : Int} {n : Nat} : ItOk K O ρ st H ((rng lo 1 n).map .p) (Itr lo n) := by
  intro O' ρ' st' H' w s S' i
  refine ⟨fun v hv => ?_, fun hi => show n ≤ i by simpa [rng_len] using hi⟩
  have hi : i < n := by
    have := (List.getElem?_eq_some_iff.mp hv).1
    simpa [rng_len] using this
  obtain ⟨d, hd, rfl⟩ : ∃ d, (rng lo 1 n)[i]? = some d ∧ Vl.p d = v := by simpa using hv
  rw [rng_get 1 n lo i hi] at hd
  cases hd
  refine ⟨hi, fun x H'' ⟨e1, e2⟩ => ?_⟩
  subst e1 e2
  refine ⟨.rfl, S', ?_⟩
  rw [Int.mul_one]
  exact RepP.int _
end
section
variable {C : Cx} {W : Nat → Option Addr → Hp → Prop} {a b c : Expr} {es : List Expr} {fa fb fc : En → Sr → R Vl} {fs : En → Sr → R (List Vl)} {pos : Pos} {tg : Expr}
theorem iPlain (ha : PE C a (TrE C.K W fa)) : PI C tg a (TrI C.K W fun e s => (fa e s).bd fun v s => itOf v s) := by
  refine ⟨fun pins s σ H Q I ⟨O, ρ, e, st, R, h⟩ => ?_⟩
  have fin : ∀ {t : TI}, PI C tg a t → t σ H Q → wpAny (model C.prog C.w) C.A (eval a C.env) (fun v s1 => wpAny (model C.prog C.w) C.A (pyIter v) (L2.PIE C pins σ tg Q) C.xe s1) C.xe s := fun p q => p.run pins s σ H Q I q
  dsimp only at h
  cases q : fa e st with
  | no => rw [q] at h; exact h.elim
  | ex c x s' => exact fin (L2.pi_list ha) ⟨O, ρ, e, st, R, by rw [q] at h ⊢; exact h⟩
  | ok v st' =>
    have h' : End C.K W O (RpI C.K O) ρ st H (itOf v st') fun J H' => Q J H' := by rw [q] at h; exact h
    cases v with
    | r n =>
      have hnd : isDp st' n = false := by
        cases z : isDp st' n with
        | false => rfl
        | true =>
          have : itOf (.r n) st' = .no := if_pos z
          rw [this] at h'; exact h'.elim
      have h' : End C.K W O (RpI C.K O) ρ st H (.ok (.inr n) st') fun J H' => Q J H' := by
        have : itOf (.r n) st' = .ok (.inr n) st' := if_neg (by rw [hnd]; simp)
        rw [this] at h'; exact h'
      refine fin (L2.pi_list ha) ⟨O, ρ, e, st, R, ?_⟩
      rw [q]
      intro ρ1 H1 x s1 S1 r1
      obtain ⟨hn, rfl⟩ := r1
      obtain ⟨w, f1, f2⟩ := S1.ob n st'[n] (by simp [hn])
      refine ⟨_, rfl, ?_, h' ρ1 H1 _ s1 S1 ⟨hn, rfl⟩⟩
      cases q : st'[n] with
      | lp z xs => rw [q] at f2; obtain ⟨vs, rfl, _⟩ := f2; exact ⟨vs, .of f1⟩
      | lr xs => rw [q] at f2; obtain ⟨rfl, _⟩ := f2; exact ⟨_, .of f1⟩
      | dp z kvs =>
        have e : st'[n]? = some (.dp z kvs) := by rw [← q]; simp [hn]
        simp [e] at hnd
      | no => rw [q] at f2; exact f2.elim
    | p d =>
      cases d with
      | list ds =>
        refine fin (L2.pi_list ha) ⟨O, ρ, e, st, R, ?_⟩
        rw [q]
        intro ρ1 H1 x s1 S1 r1
        obtain ⟨a', vs, rfl, l, rr⟩ := RepP.lst_inv r1
        exact ⟨a', rfl, ⟨vs, l.sq⟩, h' ρ1 H1 _ s1 S1 (itL S1 l rr)⟩
      | tuple ds =>
        refine fin (L2.pi_tup ha) ⟨O, ρ, e, st, R, ?_⟩
        rw [q]
        intro ρ1 H1 x s1 S1 r1
        obtain ⟨a', vs, rfl, l, rr⟩ := RepP.tup_inv r1
        exact ⟨a', rfl, ⟨vs, l⟩, h' ρ1 H1 _ s1 S1 (itT S1 l rr)⟩
      | _ => exact h'.elim
theorem two62 : (2 : Int) ^ 62 = 4611686018427387904 := by decide
theorem rd_of {K : Fg} {m : Addr → Prop} {H : Hp} : ∀ {as : List P} {xs : List V}, RdPs K m H as xs → as.length = xs.length
  | _, _, .nil => rfl
  | _, _, .cons _ r => by simp [rd_of r]
theorem itRC {lo c : Int} {n : Nat} : ItOk K O ρ st H ((rng lo c n).map .p) (L2.Itc lo c n) := by
  intro O' ρ' st' H' w s S' i
  refine ⟨fun v hv => ?_, fun hi => show n ≤ i by simpa [rng_len] using hi⟩
  have hi : i < n := by
    have := (List.getElem?_eq_some_iff.mp hv).1
    simpa [rng_len] using this
  obtain ⟨d, hd, rfl⟩ : ∃ d, (rng lo c n)[i]? = some d ∧ Vl.p d = v := by simpa using hv
  rw [rng_get c n lo i hi] at hd
  cases hd
  refine ⟨hi, fun x H'' ⟨e1, e2⟩ => ?_⟩
  subst e1 e2
  exact ⟨.rfl, S', .int _⟩
theorem rgC {a b c : Int} (h : -1000000 < a ∧ a < 1000000 ∧ -1000000 < b ∧ b < 1000000 ∧ 0 < c ∧ c < 1000000) : L2.RgC a b c (if a < b then (b - a - 1) / c + 1 else 0).toNat := by
  have q : 0 ≤ (if a < b then (b - a - 1) / c + 1 else 0) ∧ (if a < b then (b - a - 1) / c + 1 else 0) ≤ 2000000 := by
    split
    · have h1 := Int.ediv_nonneg (show 0 ≤ b - a - 1 by omega) (show 0 ≤ c by omega)
      have h2 := Int.ediv_le_self c (show 0 ≤ b - a - 1 by omega)
      omega
    · omega
  have e : Builtin.Range.rangeSize a b c = if a < b then (b - a - 1) / c + 1 else 0 := by
    unfold Builtin.Range.rangeSize
    rw [if_pos (show c > 0 by omega)]
  refine ⟨by omega, by omega, ?_, by rw [e, Int.toNat_of_nonneg q.1]⟩
  unfold Builtin.Range.small
  rw [e]
  simp only [Builtin.Range.rangeFitsLong, Bool.and_eq_true, Bool.or_eq_true, decide_eq_true_eq, beq_iff_eq]
  generalize (if a < b then (b - a - 1) / c + 1 else 0) = n at *
  rw [if_pos (show c > 0 by omega)]
  simp only [Bool.and_eq_true, decide_eq_true_eq]
  omega
theorem iRg1 {T0 : T} {p : Pos} (hg : Gl C "range") (hm : C.mg "range" = none) (ha : PA C [toE T0] (TrA C.K W fs)) (hl : ∀ e s xs s', fs e s = .ok xs s' → xs.length = 1) :
    PI C tg (.Call (.Name "range" p) [toE T0] [] pos) (TrI C.K W fun e s => (fs e s).bd fun vs s => R.of (((ddL vs s).bind rgP).map fun xs => .inl (xs.map .p)) s) :=
  imI (L2.pi_range1 hg hm ha (star_cons _ _ _)) fun σ H Q ⟨O, ρ, e, st, R, h⟩ => ⟨O, ρ, e, st, R, End.bd R.S h fun x st1 ρ1 H1 v q s1 S1 r1 h1 => by
    have hx := hl _ _ _ _ q
    cases q1 : ddL x st1 with
    | none => rw [q1] at h1; exact h1.elim
    | some as =>
      rw [q1, Option.bind_some] at h1
      have rd := ddL_rd S1 r1 q1
      have l1 := rd_of rd
      have l2 := r1.len
      match as, rd, h1, l1 with
      | [], rd, _, l1 => simp at l1; omega
      | _ :: _ :: _, rd, _, l1 => simp at l1; omega
      | [d], rd, h1, _ =>
        obtain ⟨y, rfl, hy⟩ := RdPs.one (C := C) rd
        cases d with
        | int n =>
          simp only [rgP] at h1
          split at h1
          · rename_i hn
            have t := two62
            exact ⟨n, by rw [hy.int], by rw [t]; exact hn.1, by rw [t]; exact hn.2, h1.at S1 itR⟩
          · exact h1.elim
        | _ => exact h1.elim⟩
theorem iRg2 {T0 T1 : T} {p : Pos} (hg : Gl C "range") (hm : C.mg "range" = none) (ha : PA C [toE T0, toE T1] (TrA C.K W fs)) (hl : ∀ e s xs s', fs e s = .ok xs s' → xs.length = 2) :
    PI C tg (.Call (.Name "range" p) [toE T0, toE T1] [] pos) (TrI C.K W fun e s => (fs e s).bd fun vs s => R.of (((ddL vs s).bind rgP).map fun xs => .inl (xs.map .p)) s) :=
  imI (L2.pi_range2 hg hm ha (by rw [star_cons, star_cons]; rfl) (star_cons _ _ _)) fun σ H Q ⟨O, ρ, e, st, R, h⟩ => ⟨O, ρ, e, st, R, End.bd R.S h fun x st1 ρ1 H1 v q s1 S1 r1 h1 => by
    have hx := hl _ _ _ _ q
    cases q1 : ddL x st1 with
    | none => rw [q1] at h1; exact h1.elim
    | some as =>
      rw [q1, Option.bind_some] at h1
      have rd := ddL_rd S1 r1 q1
      have l1 := rd_of rd
      have l2 := r1.len
      match as, rd, h1, l1 with
      | [], rd, _, l1 => simp at l1; omega
      | [_], rd, _, l1 => simp at l1; omega
      | _ :: _ :: _ :: _, rd, _, l1 => simp at l1; omega
      | [d, d'], rd, h1, _ =>
        obtain ⟨y, y', rfl, hy, hy'⟩ := RdPs.two (C := C) rd
        cases d with
        | int n =>
          cases d' with
          | int n' =>
            simp only [rgP] at h1
            split at h1
            · rename_i hn
              have t := two62
              exact ⟨n, n', by rw [hy.int, hy'.int], ⟨by rw [t]; exact hn.1.1, by rw [t]; exact hn.1.2, by rw [t]; exact hn.2.1, by rw [t]; exact hn.2.2⟩, h1.at S1 itR⟩
            · exact h1.elim
          | _ => exact h1.elim
        | _ => exact h1.elim⟩
theorem iRg3 {T0 T1 T2 : T} {p : Pos} (hg : Gl C "range") (hm : C.mg "range" = none) (ha : PA C [toE T0, toE T1, toE T2] (TrA C.K W fs)) (hl : ∀ e s xs s', fs e s = .ok xs s' → xs.length = 3) :
    PI C tg (.Call (.Name "range" p) [toE T0, toE T1, toE T2] [] pos) (TrI C.K W fun e s => (fs e s).bd fun vs s => R.of (((ddL vs s).bind rgP).map fun xs => .inl (xs.map .p)) s) :=
  imI (L2.pi_range3 hg hm ha (star_cons _ _ _) (by rw [star_cons, star_cons]; rfl)) fun σ H Q ⟨O, ρ, e, st, R, h⟩ => ⟨O, ρ, e, st, R, End.bd R.S h fun x st1 ρ1 H1 v q s1 S1 r1 h1 => by
    have hx := hl _ _ _ _ q
    cases q1 : ddL x st1 with
    | none => rw [q1] at h1; exact h1.elim
    | some as =>
      rw [q1, Option.bind_some] at h1
      have rd := ddL_rd S1 r1 q1
      have l1 := rd_of rd
      have l2 := r1.len
      match as, rd, h1, l1 with
      | [], rd, _, l1 => simp at l1; omega
      | [_], rd, _, l1 => simp at l1; omega
      | [_, _], rd, _, l1 => simp at l1; omega
      | _ :: _ :: _ :: _ :: _, rd, _, l1 => simp at l1; omega
      | [d, d', d''], rd, h1, _ =>
        cases rd with
        | cons hy rr =>
          obtain ⟨y', y'', rfl, hy', hy''⟩ := RdPs.two (C := C) rr
          cases d with
          | int n => cases d' with
            | int n' => cases d'' with
              | int n'' =>
                simp only [rgP] at h1
                split at h1
                · rename_i hn
                  exact ⟨n, n', n'', _, by rw [hy.int, hy'.int, hy''.int], rgC hn, h1.at S1 itRC⟩
                · exact h1.elim
              | _ => exact h1.elim
            | _ => exact h1.elim
          | _ => exact h1.elim⟩
theorem enum_get : ∀ (xs : List P) (k i : Nat), (enumP k xs)[i]? = (xs[i]?).map fun x => .p (.tuple [.int ((k + i : Nat) : Int), x])
  | [], _, _ => by simp [enumP]
  | x :: r, k, 0 => by simp [enumP]
  | x :: r, k, i + 1 => by
    simp only [enumP, List.getElem?_cons_succ]
    rw [enum_get r (k + 1) i, show k + 1 + i = k + (i + 1) by omega]
theorem enum_len : ∀ (xs : List P) (k : Nat), (enumP k xs).length = xs.length
  | [], _ => rfl
  | x :: r, k => by simp [enumP, enum_len r]
theorem zip_get : ∀ (xs ys : List P) (i : Nat) (v : Vl), (zipP xs ys)[i]? = some v → ∃ x y, xs[i]? = some x ∧ ys[i]? = some y ∧ v = .p (.tuple [x, y])
  | [], _, _, _, h => by simp [zipP] at h
  | _ :: _, [], _, _, h => by simp [zipP] at h
  | x :: r, y :: q, 0, v, h => by simp [zipP] at h; exact ⟨x, y, rfl, rfl, h.symm⟩
  | x :: r, y :: q, i + 1, v, h => by
    simp only [zipP, List.getElem?_cons_succ] at h
    exact zip_get r q i v h
theorem zip_len : ∀ (xs ys : List P) (i : Nat), (zipP xs ys).length ≤ i → xs.length ≤ i ∨ ys.length ≤ i
  | [], _, _, _ => .inl (by simp)
  | _ :: _, [], _, _ => .inr (by simp)
  | x :: r, y :: q, 0, h => by simp [zipP] at h
  | x :: r, y :: q, i + 1, h => by
    have := zip_len r q i (by simpa [zipP] using h)
    simpa using this
section
variable {K : Fg} {O O' : Addr → Prop} {ρ : Nat → Addr} {σ : Sg} {H : Hp} {e : En} {st : Sr}
theorem itE {a : Addr} {ds : List P} {vs : List V} (S : RelS K O ρ H st) (l : LsD K (Mt O ρ st) H a vs) (r : ReqP K (Mt O ρ st) H ds vs) : ItOk K O ρ st H (enumP 0 ds) (L2.Ite K a) := by
  intro O' ρ' st' H' w s S' i
  have l' := l.go w s
  have r' := r.go S w s
  refine ⟨fun v hv => ?_, fun hi => ⟨vs, l'.sq, by simpa [r.len, enum_len] using hi⟩⟩
  rw [enum_get] at hv
  obtain ⟨d, hd, rfl⟩ := Option.map_eq_some_iff.mp hv
  obtain ⟨u, h1, h2⟩ := r'.get hd
  refine ⟨⟨vs, u, l'.sq, h1⟩, fun x H'' ⟨T, y, e1, e2, e3, e4⟩ => ?_⟩
  subst e1 e3
  have := e4 vs l'.sq
  rw [h1] at this
  cases this
  refine ⟨Stp.new S' e2, S'.new e2, ?_⟩
  exact rep_newT S' e2 (.cons (by rw [Nat.zero_add]; exact .int _) (.cons h2 .nil))
theorem itET {a : Addr} {ds : List P} {vs : List V} (S : RelS K O ρ H st) (l : SqT K H a vs) (r : ReqP K (Mt O ρ st) H ds vs) : ItOk K O ρ st H (enumP 0 ds) (EnT K a) := by
  intro O' ρ' st' H' w s S' i
  have l' := s.tupK S l
  have r' := r.go S w s
  refine ⟨fun v hv => ?_, fun hi => ⟨vs, l', by simpa [r.len, enum_len] using hi⟩⟩
  rw [enum_get] at hv
  obtain ⟨d, hd, rfl⟩ := Option.map_eq_some_iff.mp hv
  obtain ⟨u, h1, h2⟩ := r'.get hd
  refine ⟨⟨vs, u, l', h1⟩, fun x H'' ⟨T, y, e1, e2, e3, e4⟩ => ?_⟩
  subst e1 e3
  have := e4 vs l'
  rw [h1] at this
  cases this
  refine ⟨Stp.new S' e2, S'.new e2, ?_⟩
  exact rep_newT S' e2 (.cons (by rw [Nat.zero_add]; exact .int _) (.cons h2 .nil))
theorem itZ {a b : Addr} {ds es : List P} {vs us : List V} (S : RelS K O ρ H st) (l : LsD K (Mt O ρ st) H a vs) (r : ReqP K (Mt O ρ st) H ds vs) (l2 : LsD K (Mt O ρ st) H b us) (r2 : ReqP K (Mt O ρ st) H es us) : ItOk K O ρ st H (zipP ds es) (L2.Itz K a b) := by
  intro O' ρ' st' H' w s S' i
  have l' := l.go w s
  have r' := r.go S w s
  have l2' := l2.go w s
  have r2' := r2.go S w s
  refine ⟨fun v hv => ?_, fun hi => ⟨vs, us, l'.sq, l2'.sq, by rw [← r.len, ← r2.len]; exact zip_len _ _ _ hi⟩⟩
  obtain ⟨d, d2, hd, hd2, rfl⟩ := zip_get _ _ _ _ hv
  obtain ⟨u, h1, h2⟩ := r'.get hd
  obtain ⟨u2, h3, h4⟩ := r2'.get hd2
  refine ⟨⟨vs, us, u, u2, l'.sq, l2'.sq, h1, h3⟩, fun x H'' ⟨T, y, y2, e1, e2, e3, e4, e5⟩ => ?_⟩
  subst e1 e3
  have t1 := e4 vs l'.sq
  have t2 := e5 us l2'.sq
  rw [h1] at t1
  rw [h3] at t2
  cases t1
  cases t2
  exact ⟨Stp.new S' e2, S'.new e2, rep_newT S' e2 (.cons h2 (.cons h4 .nil))⟩
theorem itZT {a b : Addr} {ds es : List P} {vs us : List V} (S : RelS K O ρ H st) (l : SqT K H a vs) (r : ReqP K (Mt O ρ st) H ds vs) (l2 : SqT K H b us) (r2 : ReqP K (Mt O ρ st) H es us) : ItOk K O ρ st H (zipP ds es) (RZ.ItzT K a b) := by
  intro O' ρ' st' H' w s S' i
  have l' := s.tupK S l
  have r' := r.go S w s
  have l2' := s.tupK S l2
  have r2' := r2.go S w s
  refine ⟨fun v hv => ?_, fun hi => ⟨vs, us, l', l2', by rw [← r.len, ← r2.len]; exact zip_len _ _ _ hi⟩⟩
  obtain ⟨d, d2, hd, hd2, rfl⟩ := zip_get _ _ _ _ hv
  obtain ⟨u, h1, h2⟩ := r'.get hd
  obtain ⟨u2, h3, h4⟩ := r2'.get hd2
  refine ⟨⟨vs, us, u, u2, l', l2', h1, h3⟩, fun x H'' ⟨T, y, y2, e1, e2, e3, e4, e5⟩ => ?_⟩
  subst e1 e3
  have t1 := e4 vs l'
  have t2 := e5 us l2'
  rw [h1] at t1
  rw [h3] at t2
  cases t1
  cases t2
  exact ⟨Stp.new S' e2, S'.new e2, rep_newT S' e2 (.cons h2 (.cons h4 .nil))⟩
end
theorem iEnu {T0 : T} {p tpos : Pos} {elts : List Expr} {kk : Nat} (hg : Gl C "enumerate") (hm : C.mg "enumerate" = none) (ha : PA C [toE T0] (TrA C.K W fs)) :
    PI C (.Tuple elts kk tpos) (.Call (.Name "enumerate" p) [toE T0] [] pos) (TrI C.K W fun e s => (fs e s).bd fun vs s => R.of (enV vs) s) :=
  imI (pi_enB hg hm ha (star_cons _ _ _)) fun σ H Q ⟨O, ρ, e, st, R, h⟩ => ⟨O, ρ, e, st, R, End.bd R.S h fun x st1 ρ1 H1 v q s1 S1 r1 h1 => by
    unfold enV at h1
    split at h1
    · rename_i ds
      cases r1 with
      | cons r rr =>
        cases rr
        obtain ⟨a', vs, rfl, l, rr⟩ := RepP.lst_inv r
        exact ⟨a', rfl, .inl ⟨vs, l.sq, h1.at S1 (itE S1 l rr)⟩⟩
    · rename_i ds
      cases r1 with
      | cons r rr =>
        cases rr
        obtain ⟨a', vs, rfl, l, rr⟩ := RepP.tup_inv r
        exact ⟨a', rfl, .inr ⟨vs, l, h1.at S1 (itET S1 l rr)⟩⟩
    · exact h1.elim⟩
theorem iZip {T0 T1 : T} {p tpos : Pos} {elts : List Expr} {kk : Nat} (hg : Gl C "zip") (hm : C.mg "zip" = none) (ha : PA C [toE T0, toE T1] (TrA C.K W fs)) :
    PI C (.Tuple elts kk tpos) (.Call (.Name "zip" p) [toE T0, toE T1] [] pos) (TrI C.K W fun e s => (fs e s).bd fun vs s => R.of (zpV vs) s) :=
  imI (RZ.pi_zipA hg hm ha (star_cons _ _ _) (by rw [back_any, star_cons]; rfl)) fun σ H Q ⟨O, ρ, e, st, R, h⟩ => ⟨O, ρ, e, st, R, End.bd R.S h fun x st1 ρ1 H1 v q s1 S1 r1 h1 => by
    unfold zpV at h1
    split at h1
    · rename_i ds es
      cases r1 with
      | cons r rr =>
        cases rr with
        | cons r' rr =>
          cases rr
          obtain ⟨a', vs, rfl, l, rr⟩ := RepP.lst_inv r
          obtain ⟨a2, vs2, rfl, l2, rr2⟩ := RepP.lst_inv r'
          exact ⟨a', a2, vs, vs2, rfl, .inl ⟨l.sq, l2.sq, h1.at S1 (itZ S1 l rr l2 rr2)⟩⟩
    · rename_i ds es
      cases r1 with
      | cons r rr =>
        cases rr with
        | cons r' rr =>
          cases rr
          obtain ⟨a', vs, rfl, l, rr⟩ := RepP.tup_inv r
          obtain ⟨a2, vs2, rfl, l2, rr2⟩ := RepP.tup_inv r'
          exact ⟨a', a2, vs, vs2, rfl, .inr ⟨l, l2, h1.at S1 (itZT S1 l rr l2 rr2)⟩⟩
    · exact h1.elim⟩
end
end Mi
end
section
set_option Elab.async false
set_option linter.all false
set_option maxRecDepth 100000
set_option maxHeartbeats 2000000
/-! N1: list(range(..)), len(set(..)), remove, enumerate of a tuple. -/
namespace Mi
open PySem PyProof.Rows
open L2 (V HO Hp upd upd_same upd_ne SqL SqT Rd Cx Inv PE PT PA PS PSs PG PGs PI TE TT TA TS TG TGs TI It VK XK Ends RelV Vals ne_of_none OpR R2 EP CallR UnR IxR SlR TruR Gl Vis Loc)
/-! ### list(range(..)) -/
theorem req_rng {K : Fg} {m : Addr → Prop} {H : Hp} : ∀ (n : Nat) (a : Int), ReqP K m H (rng a 1 n) ((List.range n).map fun i => V.int (a + (i : Nat)))
  | 0, _ => .nil
  | n + 1, a => by
    rw [List.range_succ_eq_map, List.map_cons, List.map_map]
    have h := req_rng (K := K) (m := m) (H := H) n (a + 1)
    have e : ((fun i : Nat => V.int (a + (i : Nat))) ∘ Nat.succ) = fun i : Nat => V.int (a + 1 + (i : Nat)) := by
      funext i
      show V.int _ = V.int _
      congr 1
      simp only [Nat.succ_eq_add_one]
      omega
    rw [e, show a + ((0 : Nat) : Int) = a by omega]
    exact .cons (.int a) h
section
variable {C : Cx} {W : Nat → Option Addr → Hp → Prop} {a b c : Expr} {es : List Expr} {fa fb fc : En → Sr → R Vl} {fs : En → Sr → R (List Vl)} {pos : Pos} {tg : Expr}
theorem reqI {K : Fg} {m : Addr → Prop} {H : Hp} : ∀ (l : List Int), ReqP K m H (l.map PyData.int) (l.map V.int)
  | [] => .nil
  | i :: l => .cons (.int i) (reqI l)
theorem rg_cases {as : List P} {ys : List P} (hl : ¬ as.length = 3) (h : rgP as = some ys) : ∃ lo hi : Int, (as = [.int hi] ∧ lo = 0 ∨ as = [.int lo, .int hi]) ∧ Sm62 lo ∧ Sm62 hi ∧ ys = rng lo 1 (hi - lo).toNat := by
  unfold rgP at h
  split at h
  · rename_i n
    split at h
    · rename_i q
      cases h
      exact ⟨0, n, .inl ⟨rfl, rfl⟩, by unfold Sm62; omega, q, by rw [Int.sub_zero]⟩
    · cases h
  · rename_i lo hi
    split at h
    · rename_i q
      cases h
      exact ⟨lo, hi, .inr rfl, q.1, q.2, rfl⟩
    · cases h
  · exact absurd rfl hl
  · cases h
theorem xLrg {T0 T1 : T} {p0 p1 p2 : Pos} (hc : C.calm = true) (hg : Gl C "list") (hm : C.mg "list" = none) (hg2 : Gl C "range") (hm2 : C.mg "range" = none) (hs : ns T1 = true) (ha : PA C (toE T0 :: toEs T1) (TrA C.K W fs)) :
    PE C (.Call (.Name "list" p0) [.Call (.Name "range" p1) (toE T0 :: toEs T1) [] p2] [] pos) (TrE C.K W fun e s => opL lrgP (fs e s)) := by
  refine ⟨fun pins s σ H Q I ⟨O, ρ, e, st, R, h⟩ => ?_⟩
  have go : ∀ (lo hi : Int) (s1 : Shared) (H1 : Hp) (r : Addr) (t u v : Tok), PySem.IsRange s1.heap r lo hi 1 t u v → Inv C pins σ H1 s1 → Sm62 lo → Sm62 hi → (hi - lo).toNat ≤ lim → (∀ q, H1 q = none → Q (.ref q) (upd H1 q (.lst (L2.rgV lo hi)))) →
      wpAny (model C.prog C.w) C.A (call (.type "list") [.ref r]) (EP C pins σ Q) C.xe s1 := fun lo hi s1 H1 r t u v hr I1 b1 b2 b3 q => by
    unfold Sm62 at b1 b2
    have b4 : (hi - lo).toNat ≤ 1000000 := b3
    refine call_list_range (n := (hi - lo).toNat) (I1.ok.hd hc) hr (small_one (by omega) (by omega) (by omega) (by omega)) (PyProof.Rows.rangeSize_nat lo hi) (by omega) fun h' tk acc c' hk e' hi' => ?_
    have fr : H1 s1.heap.objs.size = none := I1.hok.fresh (Nat.le_refl _)
    refine ⟨.ref s1.heap.objs.size, upd H1 s1.heap.objs.size (.lst (L2.rgV lo hi)), I1.laid hk (Nat.le_refl _) (show L2.ObjOk C.prog C.w _ _ _ (.lst (L2.rgV lo hi)) from ⟨?_, acc.toList, c', L2.vals_rg hi', ?_⟩), rfl, q _ fr⟩
    · rw [L2.rgV_length, sizeLine_eq]; omega
    · rw [Array.toArray_toList]; exact e'
  refine PyProof.Rows.Call_ (L2.ld_blt I hg hm PyProof.Rows.boot_list (PyProof.Rows.callWith_type1 (PyProof.Rows.args_cons ?_ rfl) rfl rfl))
  refine PyProof.Rows.Call_ (L2.ld_blt I hg2 hm2 PyProof.Rows.boot_range ?_)
  refine PyProof.Rows.callWith_type1 (L2.thn (ha.run p2 pins s σ H (fun vs H1 => ∃ lo hi : Int, (vs = [.int hi] ∧ lo = 0 ∨ vs = [.int lo, .int hi]) ∧ Sm62 lo ∧ Sm62 hi ∧ (hi - lo).toNat ≤ lim ∧ ∀ q, H1 q = none → Q (.ref q) (upd H1 q (.lst (L2.rgV lo hi)))) I ⟨O, ρ, e, st, R, End.bd R.S h fun xs st1 ρ1 H1 vs _ s1 S1 r1 h1 => ?_⟩) fun us s1 ⟨vs, H1, I1, r1, lo, hi, q1, b1, b2, b3, q⟩ => ?_) (star_cons _ _ _) (by rw [back_any]; exact ns_star _ hs _)
  · split at h1
    · rename_i as e1
      split at h1
      · rename_i d e3
        have rd := ddL_rd S1 r1 e1
        unfold lrgP at e3
        split at e3
        · cases e3
        rename_i h3
        rw [Option.bind_eq_some_iff] at e3
        obtain ⟨ys, e3, e4⟩ := e3
        split at e4
        · rename_i hlen
          cases e4
          obtain ⟨lo, hi, q1, b1, b2, rfl⟩ := rg_cases h3 e3
          rw [rng_len] at hlen
          refine ⟨lo, hi, ?_, b1, b2, hlen, fun q hq => h1 ρ1 _ _ (Stp.new S1 hq) (S1.new hq) (rep_newL S1 hq (req_rng _ _))⟩
          rcases q1 with ⟨rfl, rfl⟩ | rfl
          · obtain ⟨y, rfl, hy⟩ := RdPs.one (C := C) rd
            exact .inl ⟨by rw [hy.int], rfl⟩
          · obtain ⟨y, z, rfl, hy, hz⟩ := RdPs.two (C := C) rd
            exact .inr (by rw [hy.int, hz.int])
        · cases e4
      · exact h1.elim
    · exact h1.elim
  · rcases q1 with ⟨rfl, rfl⟩ | rfl
    · cases r1 with
      | cons r rr =>
        cases rr
        obtain ⟨t, rfl⟩ := r
        refine call_range_1 (PyProof.Rows.args_nil (go 0 hi _ H1 _ _ _ _ (IsRange.new _ _ _ _ _ _ _) (I1.kept fun b u e => Heap.get?_push_of_some _ e) b1 b2 b3 q))
    · cases r1 with
      | cons r rr =>
        cases rr with
        | cons r' rr =>
          cases rr
          obtain ⟨t, rfl⟩ := r
          obtain ⟨t', rfl⟩ := r'
          refine call_range_2 (PyProof.Rows.args_nil (go lo hi _ H1 _ _ _ _ (IsRange.new _ _ _ _ _ _ _) (I1.kept fun b u e => Heap.get?_push_of_some _ e) b1 b2 b3 q))
/-! ### len(set(..)) -/
theorem len_le_of_sub : ∀ {l m : List Int}, l.Nodup → (∀ x ∈ l, x ∈ m) → l.length ≤ m.length
  | [], _, _, _ => Nat.zero_le _
  | x :: l, m, nd, h => by
    obtain ⟨n1, n2⟩ := List.nodup_cons.mp nd
    have hx := h x List.mem_cons_self
    have ih := len_le_of_sub (l := l) (m := m.erase x) n2 fun y hy => by
      have hy2 := h y (List.mem_cons_of_mem _ hy)
      have ne : y ≠ x := fun e => n1 (e ▸ hy)
      exact (List.mem_erase_of_ne ne).mpr hy2
    have := List.length_erase_of_mem hx
    have : 0 < m.length := List.length_pos_of_mem hx
    simp only [List.length_cons]
    omega
theorem mem_dst : ∀ {ns : List Int} {x : Int}, x ∈ dst ns ↔ x ∈ ns
  | [], x => by simp [dst]
  | y :: r, x => by
    unfold dst
    split
    · rename_i h
      rw [mem_dst, List.mem_cons]
      exact ⟨.inr, fun q => q.elim (fun e => e ▸ h) id⟩
    · rw [List.mem_cons, List.mem_cons, mem_dst]
theorem nodup_dst : ∀ (ns : List Int), (dst ns).Nodup
  | [] => List.nodup_nil
  | y :: r => by
    unfold dst
    split
    · exact nodup_dst r
    · rename_i h
      exact List.nodup_cons.mpr ⟨fun q => h (mem_dst.mp q), nodup_dst r⟩
theorem dst_len {l ns : List Int} (nd : l.Nodup) (h : ∀ x, x ∈ l ↔ x ∈ ns) : l.length = (dst ns).length :=
  Nat.le_antisymm (len_le_of_sub nd fun x hx => mem_dst.mpr ((h x).mp hx)) (len_le_of_sub (nodup_dst ns) fun x hx => (h x).mpr (mem_dst.mp hx))
theorem met_nodup (val : Nat → Int) : ∀ i, (PyProof.Rows.firstMet val i).Nodup ∧ ∀ x, x ∈ PyProof.Rows.firstMet val i ↔ ∃ j, j < i ∧ val j = x
  | 0 => by simp [PyProof.Rows.firstMet_zero]
  | i + 1 => by
    obtain ⟨h1, h2⟩ := met_nodup val i
    rw [PyProof.Rows.firstMet_succ]
    unfold PyProof.Rows.step_dedup
    split
    · rename_i q
      obtain ⟨y, hy, e⟩ := List.any_eq_true.mp q
      have e := eq_of_beq e
      subst e
      refine ⟨h1, fun x => ?_⟩
      rw [h2]
      refine ⟨fun ⟨j, hj, e⟩ => ⟨j, by omega, e⟩, fun ⟨j, hj, e9⟩ => ?_⟩
      by_cases hji : j = i
      · subst hji
        rw [← e9]
        exact (h2 _).mp hy
      · exact ⟨j, by omega, e9⟩
    · rename_i q
      have nin : val i ∉ PyProof.Rows.firstMet val i := fun hm => q (List.any_eq_true.mpr ⟨_, hm, beq_self_eq_true _⟩)
      refine ⟨?_, fun x => ?_⟩
      · rw [List.nodup_append]
        exact ⟨h1, List.nodup_cons.mpr ⟨by simp, List.nodup_nil⟩, fun a ha b hb => by
          rw [List.mem_singleton] at hb
          subst hb
          exact fun e => nin (e ▸ ha)⟩
      · rw [List.mem_append, h2, List.mem_singleton]
        refine ⟨fun h => h.elim (fun ⟨j, hj, e⟩ => ⟨j, by omega, e⟩) fun e => ⟨i, by omega, e.symm⟩, fun ⟨j, hj, e⟩ => ?_⟩
        by_cases hji : j = i
        · subst hji; exact .inr e.symm
        · exact .inl ⟨j, by omega, e⟩
theorem met_len (ns : List Int) : (PyProof.Rows.firstMet (fun i => ns.getD i 0) ns.length).length = (dst ns).length := by
  obtain ⟨h1, h2⟩ := met_nodup (fun i => ns.getD i 0) ns.length
  refine dst_len h1 fun x => ?_
  rw [h2]
  constructor
  · rintro ⟨j, hj, rfl⟩
    show ns.getD j 0 ∈ ns
    rw [List.getD_eq_getElem?_getD, List.getElem?_eq_getElem hj]
    exact List.getElem_mem hj
  · intro h
    obtain ⟨j, hj, e⟩ := List.getElem_of_mem h
    refine ⟨j, hj, ?_⟩
    show ns.getD j 0 = x
    rw [List.getD_eq_getElem?_getD, List.getElem?_eq_getElem hj]
    exact e
theorem dst_le (ns : List Int) : (dst ns).length ≤ ns.length := len_le_of_sub (nodup_dst ns) fun x hx => mem_dst.mp hx
theorem xSet0 {T0 : T} {p0 p1 p2 : Pos} (hc : C.calm = true) (hg : Gl C "len") (hm : C.mg "len" = none) (hg2 : Gl C "set") (hm2 : C.mg "set" = none) (ha : PE C (toE T0) (TrE C.K W fa)) :
    PE C (.Call (.Name "len" p0) [.Call (.Name "set" p1) [toE T0] [] p2] [] pos) (TrE C.K W fun e s => op1 (sbP false) (fa e s)) := by
  refine ⟨fun pins s σ H Q I ⟨O, ρ, e, st, R, h⟩ => ?_⟩
  refine PyProof.Rows.Call_ (L2.ld_blt I hg hm PySem.boot_len (PyProof.Rows.callWith_builtin1 (PyProof.Rows.args_cons ?_ rfl) rfl rfl))
  refine PyProof.Rows.Call_ (L2.ld_blt I hg2 hm2 PyProof.Rows.boot_set ?_)
  refine PyProof.Rows.callWith_type1 (PyProof.Rows.args_cons (L2.thn (ha.run pins s σ H (fun x H1 => ∃ (m : Addr → Prop) (d c : P), sbP false d = some c ∧ RdP C.K m H1 d x ∧ ∀ v, (∀ m H, RepP C.K m H c v) → Q v H1) I ⟨O, ρ, e, st, R, End.bd R.S h fun x st1 ρ1 H1 v _ s1 S1 r1 h1 => ?_⟩) fun v s1 ⟨x, H1, I1, r1, m, d, c, e1, rd, q⟩ => PyProof.Rows.args_nil ?_) (star_cons _ _ _)) (star_cons _ _ _) rfl
  · split at h1
    · rename_i p e1
      split at h1
      · rename_i c e3
        exact ⟨_, p, c, e3, dd_rd S1 r1 e1, fun v hv => h1 ρ1 H1 v (.rfl) S1 (hv _ _)⟩
      · exact h1.elim
    · exact h1.elim
  · unfold sbP at e1
    split at e1
    · rename_i ns e2
      rw [Option.bind_eq_some_iff] at e2
      obtain ⟨ds, e2, e3⟩ := e2
      split at e1
      · rename_i hn
        cases e1
        have fin : ∀ (h' : Heap) (tk : Nat) (o : Obj) (es : Array (Int × Value)) (ep : Nat) (t : SetTable), h'.get? s1.heap.objs.size = some o → o.ExactSet → o.data = .set es ep t → t.fits es.size = true → es.size = (dst ns).length → (∀ b o, s1.heap.get? b = some o → h'.get? b = some o) →
            wpAny (model C.prog C.w) C.A (call (.builtin "len") [.ref s1.heap.objs.size]) (EP C pins σ Q) C.xe { s1 with heap := h', toks := tk } := fun h' tk o es ep t ho hex hd hf hes hk => by
          have := dst_le ns
          have I2 : Inv C pins σ H1 { s1 with heap := h', toks := tk } := I1.kept hk
          refine call_len_set ho hex hd hf (by rw [hes]; omega) ⟨.int ((dst ns).length : Nat), H1, I2.tok _, ⟨_, by rw [hes]⟩, q _ fun _ _ => .int _⟩
        cases d with
        | list xs =>
          cases e2
          obtain ⟨a', vs, rfl, l, rr⟩ := rd.list
          obtain ⟨f1, f2⟩ := rr.ints e3
          subst f2
          cases r1
          obtain ⟨its, rv, hl, hz⟩ := I1.list l.sq
          have hlen : its.toArray.size = ns.length := by rw [List.size_toArray, ← rv.length, List.length_map]
          refine call_set_list (I1.ok.hd hc) hl.isList (ns := ns) (by simpa using rv.ints) (by unfold scanBound; omega) fun h' tk hS hk => PyProof.Rows.args_nil ?_
          rw [hlen] at hS
          obtain ⟨o, es, ep, t, ho, hex, hd, _, _, _, hf, hn'⟩ := hS
          exact fin h' tk o es ep t ho hex hd hf (hn'.trans (met_len ns)) fun b o e => hk b o (Heap.lt_size e) e
        | tuple xs =>
          cases e2
          obtain ⟨a', vs, rfl, l, rr⟩ := rd.tup
          obtain ⟨f1, f2⟩ := rr.ints e3
          subst f2
          cases r1
          obtain ⟨its, rv, hl, hz⟩ := I1.tuple l
          refine L2.call_set_tupI ns (I1.ok.hd hc) hl (by simpa using rv.ints) (by unfold scanBound; omega) fun h' tk c R' hle hk => PyProof.Rows.args_nil ?_
          obtain ⟨o, es, ep, t, ho, hex, hd, g, nd, hmm, hb, hf, hn', _⟩ := R'
          refine fin h' tk o es ep t ho hex hd hf ?_ hk
          rw [← dst_len nd fun x => by rw [← hmm x, decide_eq_true_eq], List.length_map, Array.length_toList]
        | _ => cases e2
      · cases e1
    · cases e1
/-! ### remove -/
def rRem (K : Fg) : V → List V → Hp → VK → Prop := fun x vs H Q => ∃ (l : Addr) (js : List Int) (k : Int), x = .ref l ∧ vs = [.int k] ∧ H l = some (.lst (js.map V.int)) ∧ k ∈ js ∧ Q .non (upd H l (.lst ((js.erase k).map V.int)))
theorem mRem : L2.MtR C "list.remove" (rRem C.K) := by
  intro pins s σ H x vs v us Q I rx rv h
  obtain ⟨l, js, k, rfl, rfl, hH, hkj, q⟩ := h
  cases rx
  obtain ⟨u, rfl, ru⟩ := rv.one
  obtain ⟨tk, rfl⟩ := ru
  obtain ⟨z, its, n, r, hl, eo⟩ := I.lstM hH
  have hint : IntsAre its js := L2.intsAre_of r
  have hln : js.length = its.length := by rw [← hl, List.length_map]
  have hsz : its.toArray.size ≤ sizeLine := by rw [List.size_toArray, ← hl]; exact z
  obtain ⟨j, j1, j2, j3, j4⟩ := L2.first_at hkj
  have hjl : j < its.length := by omega
  refine call_meets PySem.F.slot_list_remove ⟨_, eo, rfl⟩ PySem.F.entry_list_remove (PySem.F.args_list_remove_2 _ _)
    (MeetsSeq.list_remove l its.toArray n (.int k tk) (isInt k) (fun y hy => eq_isInt k tk hint y (by simpa using hy)) j (by rw [List.size_toArray]; exact hjl) ((L2.isInt_at k hint j hjl).mpr j2) (fun i hi hlt => ?_) hsz) ⟨eo, ?_⟩
  · have hi3 : i < its.length := by rw [List.size_toArray] at hi; exact hi
    show isInt k its[i] = false
    rw [Bool.eq_false_iff]
    exact fun w => j3 i hlt ((L2.isInt_at k hint i hi3).mp w)
  · have r2 : Vals ((js.erase k).map V.int) (its.eraseIdx j) := by
      have w := r.eraseIdx j
      rw [L2.map_eraseIdx', j4] at w
      exact w
    refine ⟨.non, _, I.lset (its' := its.eraseIdx j) hH eo ?_ r2 ?_, rfl, q⟩
    · show its.toArray.eraseIdxIfInBounds j = (its.eraseIdx j).toArray
      rw [List.eraseIdxIfInBounds_toArray]
    · rw [List.length_map]
      have := List.length_erase_le (a := k) (l := js)
      rw [List.length_map] at z
      omega
theorem remV_ok {O : Addr → Prop} {ρ : Nat → Addr} {st st' : Sr} {H : Hp} {o : Vl} {ys : List Vl} {x : V} {us : List V} (S : RelS C.K O ρ H st) (h : remV o ys st = some st') (ro : Rep C.K O ρ st H o x) (rs : Reps C.K O ρ st H ys us) :
    ∃ (l : Addr) (js : List Int) (k : Int), x = .ref l ∧ us = [.int k] ∧ H l = some (.lst (js.map V.int)) ∧ k ∈ js ∧ Stp ρ st H ρ st' (upd H l (.lst ((js.erase k).map V.int))) ∧ RelS C.K O ρ (upd H l (.lst ((js.erase k).map V.int))) st' := by
  unfold remV at h
  split at h
  · rename_i n k e1
    obtain ⟨hn, rfl⟩ := ro
    split at h
    · rename_i xs q
      split at h
      · rename_i js e2
        split at h
        · rename_i hk
          cases h
          obtain ⟨y, rfl, hy⟩ := RdPs.one (C := C) (ddL_rd S rs e1)
          obtain ⟨w, f1, vs, rfl, f2⟩ := S.ob n _ q
          obtain ⟨g1, g2⟩ := f2.ints e2
          subst g2
          obtain ⟨b1, b2⟩ := plain_upd S q (reqI (K := C.K) (m := Mt O ρ st) (H := H) (js.erase k))
          exact ⟨_, js, k, rfl, by rw [hy.int], f1, hk, b1, b2⟩
        · cases h
      · cases h
    · cases h
  · cases h
theorem tyR {O : Addr → Prop} {ρ : Nat → Addr} {st : Sr} {H : Hp} {n : Nat} {v : V} (S : RelS C.K O ρ H st) (r : Rep C.K O ρ st H (.r n) v) (nd : isL (.r n) st = true) : L2.tyV C.K "list" v H := by
  obtain ⟨hn, rfl⟩ := r
  obtain ⟨w, f1, f2⟩ := S.ob n st[n] (by simp [hn])
  cases q : st[n] with
  | lp z xs => rw [q] at f2; obtain ⟨vs, rfl, _⟩ := f2; exact .inl ⟨rfl, vs, .of f1⟩
  | lr xs => rw [q] at f2; obtain ⟨rfl, _⟩ := f2; exact .inl ⟨rfl, _, .of f1⟩
  | dp z kvs =>
    have e : st[n]? = some (.dp z kvs) := by rw [← q]; simp [hn]
    simp [e] at nd
  | no => rw [q] at f2; exact f2.elim
theorem xRem {T0 T1 : T} {p0 : Pos} (hb : ∀ (nm : Str), attributeBase (toE T0) nm C.env (eval (toE T0) C.env) = eval (toE T0) C.env) (hl : (p0.endLine == pos.line) = true) (ho : PE C (toE T0) (TrE C.K W fa)) (hx : PA C [toE T1] (TrA C.K W fs)) :
    PE C (.Call (.Attribute (toE T0) (meN .rem) p0) [toE T1] [] pos) (TrE C.K W fun e s => (fa e s).bd fun o s => if isL o s = true then (fs e s).bd fun vs s => meV .rem o vs s else .no) :=
  imE (L2.pe_bm F.plainAttrs_list PySem.F.slot_list_remove PySem.F.type_list_remove mRem ho hx (hb _) (by rw [star_cons]; rfl) hl (star_cons _ _ _)) fun σ H Q ⟨O, ρ, e, st, R, h⟩ =>
    ⟨O, ρ, e, st, R, End.bd R.S h fun x st1 ρ1 H1 v _ s1 S1 r1 h1 => by
      split at h1
      · rename_i hx
        cases x with
        | p d => cases hx
        | r n =>
          refine ⟨tyR S1 r1 hx, O, ρ1, e, st1, R.go s1 S1, End.bd S1 h1 fun ys st2 ρ2 H2 us _ s2 S2 r2 h2 => ?_⟩
          simp only [meV] at h2
          split at h2
          · rename_i st' q
            obtain ⟨l, js, k, e1, e2, e3, e4, t1, t2⟩ := remV_ok S2 q (Rep.stp S1 s2 r1) r2
            exact ⟨l, js, k, e1, e2, e3, e4, h2 ρ2 _ _ t1 t2 .non⟩
          · exact h2.elim
      · exact h1.elim⟩
end
end Mi
end
section
set_option Elab.async false
set_option linter.all false
set_option maxRecDepth 100000
set_option maxHeartbeats 3200000
/-! N2: sorted(set(..)). -/
section
open PySem L2 PySem.Spec PyProof.Rows
namespace Mi
variable {P : Program} {w : World} {A : Around} {E : Value → Shared → Prop} {s : Shared}
/-- a set before anything is put into it -/
abbrev nset (w : World) : Obj := ⟨.type "set", none, .set #[] 0 (.fresh 0 0 (!w.params.followText "set-order")), #[]⟩
/-- the iterator over a list -/
abbrev lit (l : Addr) : Obj := ⟨.type "list_iterator", none, .fields #[.ref l, .int 0 0], #[]⟩
/-- set(l), l a list of ints: its table is told -/
theorem call_setL {l : Addr} {items : Array Value} (ns : List Int) {Q : Value → Shared → Prop} (hh : A.handled = none) (hl : s.heap.IsList l items) (hit : IntsAre items.toList ns) (hb : ns.length + 1 < scanBound)
    (h : ∀ (h' : Heap) (tk c : Nat), SetR w h' s.heap.objs.size (fun j => decide (j ∈ ns)) c → c ≤ ns.length → (∀ b o, s.heap.get? b = some o → h'.get? b = some o) → Q (.ref s.heap.objs.size) { s with heap := h', toks := tk }) :
    wpAny (model P w) A (call (.type "set") [.ref l]) Q E s := by
  have size : items.size = ns.length := by rw [← Array.length_toList]; exact IntsAre.length hit
  have ⟨c, tl, hmro⟩ := F.called_set.mro
  have hmade := F.called_set.made
  have hsub := F.called_set.sub
  apply wpAny_call; apply codeAny_of_tree
  change wpAny _ _ (callAny (.type "set") _) _ _ _
  apply wpAny_pure
  refine ⟨Code.quiet_builtin _ (by decide +kernel), ?_⟩
  apply codeAny_builtin F.entry_type_call
  rw [Around.under_plain (weight_type_call_type "set" [.ref l] []) rfl]
  have h1 := F.called_set.notType
  have h2 := F.called_set.canCreate
  have hct := F.typeCall_set_1 (.ref l)
  repeat any_goals first | wp_step | assumption
  refine codeAny_mono (code_set_led1 (.ref l) (E := E) (Q₁ := fun x t => x = .ref s.heap.objs.size ∧ t = { s with heap := s.heap.push (nset w) }) ⟨rfl, rfl⟩) ?_
  intro r t hr
  cases r with
  | error e => exact hr
  | ok fl =>
    cases fl with
    | ret x =>
      have ⟨ex, et⟩ := hr
      subst ex; subst et
      have hS : (s.heap.push (nset w)).get? s.heap.objs.size = some (nset w) := Heap.get?_push_size _ rfl
      have hT : Shared.TypeIs { s with heap := s.heap.push (nset w) } (.ref s.heap.objs.size) "set" := ⟨_, hS, rfl⟩
      have hli := F.called_set.init.lookup
      have hbi := F.called_set.init.bind (.ref s.heap.objs.size)
      repeat any_goals first | wp_step | assumption
      refine codeAny_mono (codeAny_call_builtin (R := wants (fun r t => r = .none ∧ ∃ h' tk c, t = { s with heap := h', toks := tk } ∧ SetR w h' s.heap.objs.size (fun j => decide (j ∈ ns)) c ∧ c ≤ ns.length ∧ ∀ b o, s.heap.get? b = some o → h'.get? b = some o) E) F.called_set.init.plain F.entry_set_init (check_set_init_1 hT ?_)) ?_
      · have ⟨⟨ocl, odi, oda, osl⟩, hol, hcl, nl, hdl⟩ := hl
        simp only at hcl hdl
        subst hcl; subst hdl
        have hol' : (s.heap.push (nset w)).get? l = some ⟨.type "list", odi, .seq items nl, osl⟩ := Heap.get?_push_of_some _ hol
        have hsls := F.sub_list_set
        have hslf := F.sub_list_frozenset
        have hne : (Value.type "list" == Value.type "dict") = false := by decide
        have hl1 : (s.heap.push (nset w)).IsList l items := ⟨_, hol', rfl, nl, rfl⟩
        unfold Builtin.«set.__init__» noKeywords Builtin.Frozenset.updateFrom
        generalize hPI : pyIter = PI
        wp_walk
        subst hPI
        apply wpAny_pyIter_list hl1
        apply wpAny_bind; apply wpAny_runValue
        have lS : l < s.heap.objs.size := Heap.lt_size hol
        have hh3 : A.in1.in1.in1.handled = none := by simp [hh]
        have zz : (s.heap.push (nset w)).objs.size = s.heap.objs.size + 1 := Heap.size_push ..
        have neI : l ≠ (s.heap.push (nset w)).objs.size := Nat.ne_of_lt (by rw [zz]; exact Nat.lt_succ_of_lt lS)
        have nin : s.heap.objs.size ∉ [(s.heap.push (nset w)).objs.size, l] := by
          rw [zz]
          intro q
          rcases List.mem_cons.mp q with q | q
          · exact Nat.ne_of_lt (Nat.lt_succ_self _) q
          · exact Nat.ne_of_gt lS (List.mem_singleton.mp q)
        have val : ∀ (i : Nat) (v : Value), items[i]? = some v → ∃ k t, ns[i]? = some k ∧ v = .int k t := by
          intro i v hv
          have hi : i < ns.length := by rw [← size]; exact (Array.getElem?_eq_some_iff.mp hv).1
          have ⟨t, e⟩ := IntsAre.int_at hit i v (by rw [Array.getElem?_toList]; exact hv)
          refine ⟨ns[i], t, List.getElem?_eq_getElem hi, ?_⟩
          rw [e, List.getD_eq_getElem?_getD, List.getElem?_eq_getElem hi] <;> rfl
        refine set_update_ints ((Walks.list hh3 _ l neI items).toS) s.heap.objs.size nin ns size hb val (items.size - 0) 0 _ (by omega) (Nat.zero_le _) ⟨⟨_, Heap.get?_push_size _ rfl, rfl, rfl⟩, hl1.push _⟩ ⟨0, Nat.le_refl 0, setR_new_at (Heap.get?_push_of_some (h := s.heap.push (nset w)) (lit l) hS)⟩ ?_
        intro ⟨h', g2, d', tk', os'⟩ c' hm hc' hS'
        have e1 : g2 = s.gens := hm.gens
        have e2 : d' = s.drawn := hm.drawn
        have e3 : os' = s.os := hm.os
        subst e1; subst e2; subst e3
        change wpAny _ _ _ _ _ _
        apply wpAny_pure
        change wpAny _ _ (ret Value.none) _ _ _
        apply wpAny_pure
        refine ⟨rfl, h', tk', c', rfl, hS', by omega, ?_⟩
        intro b o e
        have b0 : b < s.heap.objs.size := Heap.lt_size e
        refine hm.heap b o ?_ (Heap.get?_push_of_some _ (Heap.get?_push_of_some _ e))
        rw [zz]
        intro q
        rcases List.mem_cons.mp q with q | q
        · exact Nat.ne_of_lt b0 q
        · exact Nat.ne_of_lt (Nat.lt_succ_of_lt b0) (List.mem_singleton.mp q)
      · intro r2 t2 hr2
        cases r2 with
        | error e => exact hr2
        | ok f2 =>
          cases f2 with
          | ret r =>
            have ⟨er, h', tk, c', es, hS', hc', hk'⟩ := hr2
            subst er; subst es
            repeat any_goals first | wp_step | assumption
            exact h _ _ _ hS' hc' hk'
          | _ => exact hr2.elim
    | _ => exact hr.elim
end Mi
end
end
section
set_option Elab.async false
set_option linter.all false
set_option maxRecDepth 100000
set_option maxHeartbeats 2000000
/-! N3: sorted(set(..)), its rule. -/
namespace Mi
open PySem PyProof.Rows
open L2 (V HO Hp upd upd_same upd_ne SqL SqT Rd Cx Inv PE PT PA PS PSs PG PGs PI TE TT TA TS TG TGs TI It VK XK Ends RelV Vals ne_of_none OpR R2 EP CallR UnR IxR SlR TruR Gl Vis Loc SetR)
theorem insI_mem {x y : Int} : ∀ {l : List Int}, y ∈ insI x l ↔ y = x ∨ y ∈ l
  | [] => by simp [insI]
  | z :: r => by
    unfold insI
    split
    · simp
    · split
      · rename_i h
        subst h
        simp
      · rw [List.mem_cons, insI_mem, List.mem_cons]
        constructor
        · rintro (h | h | h)
          · exact .inr (.inl h)
          · exact .inl h
          · exact .inr (.inr h)
        · rintro (h | h | h)
          · exact .inr (.inl h)
          · exact .inl h
          · exact .inr (.inr h)
theorem insI_up {x : Int} : ∀ {l : List Int}, l.Pairwise (· < ·) → (insI x l).Pairwise (· < ·)
  | [], _ => by simp [insI]
  | z :: r, h => by
    obtain ⟨h1, h2⟩ := List.pairwise_cons.mp h
    unfold insI
    split
    · rename_i q
      exact List.pairwise_cons.mpr ⟨fun y hy => (List.mem_cons.mp hy).elim (fun e => e ▸ q) fun e => Int.lt_trans q (h1 y e), h⟩
    · split
      · exact h
      · refine List.pairwise_cons.mpr ⟨fun y hy => ?_, insI_up h2⟩
        rcases insI_mem.mp hy with e | e
        · omega
        · exact h1 y e
theorem srt_mem {x : Int} : ∀ {l : List Int}, x ∈ srt l ↔ x ∈ l
  | [] => by simp [srt]
  | y :: r => by rw [srt, insI_mem, srt_mem, List.mem_cons]
theorem srt_up : ∀ (l : List Int), (srt l).Pairwise (· < ·)
  | [] => List.Pairwise.nil
  | y :: r => insI_up (srt_up r)
theorem up_uni : ∀ {l m : List Int}, l.Pairwise (· < ·) → m.Pairwise (· < ·) → (∀ x, x ∈ l ↔ x ∈ m) → l = m
  | [], [], _, _, _ => rfl
  | [], y :: r, _, _, h => absurd ((h y).mpr List.mem_cons_self) (by simp)
  | y :: r, [], _, _, h => absurd ((h y).mp List.mem_cons_self) (by simp)
  | y :: r, z :: q, hl, hm, h => by
    obtain ⟨l1, l2⟩ := List.pairwise_cons.mp hl
    obtain ⟨m1, m2⟩ := List.pairwise_cons.mp hm
    have e : y = z := by
      have a := List.mem_cons.mp ((h y).mp List.mem_cons_self)
      have b := List.mem_cons.mp ((h z).mpr List.mem_cons_self)
      rcases a with a | a
      · exact a
      · rcases b with b | b
        · exact b.symm
        · have := m1 y a
          have := l1 z b
          omega
    subst e
    rw [up_uni l2 m2 fun x => ?_]
    constructor
    · intro hx
      rcases List.mem_cons.mp ((h x).mp (List.mem_cons_of_mem _ hx)) with e | e
      · have := l1 x hx; omega
      · exact e
    · intro hx
      rcases List.mem_cons.mp ((h x).mpr (List.mem_cons_of_mem _ hx)) with e | e
      · have := m1 x hx; omega
      · exact e
theorem req_ints {K : Fg} {m : Addr → Prop} {H : Hp} : ∀ (ns : List Int), ReqP K m H (ns.map .int) (ns.map V.int)
  | [] => .nil
  | n :: r => .cons (.int n) (req_ints r)
theorem xSetS {T0 : T} {p0 p1 p2 : Pos} (hc : C.calm = true) (hg : Gl C "sorted") (hm : C.mg "sorted" = none) (hg2 : Gl C "set") (hm2 : C.mg "set" = none) (ha : PE C (toE T0) (TrE C.K W fa)) :
    PE C (.Call (.Name "sorted" p0) [.Call (.Name "set" p1) [toE T0] [] p2] [] pos) (TrE C.K W fun e s => op1 (sbP true) (fa e s)) := by
  refine ⟨fun pins s σ H Q I ⟨O, ρ, e, st, R, h⟩ => ?_⟩
  refine PyProof.Rows.Call_ (L2.ld_blt I hg hm (show bootBuiltins "sorted" = some (.builtin "sorted") by decide +kernel) (PyProof.Rows.callWith_builtin1 (PyProof.Rows.args_cons ?_ rfl) rfl rfl))
  refine PyProof.Rows.Call_ (L2.ld_blt I hg2 hm2 PyProof.Rows.boot_set ?_)
  refine PyProof.Rows.callWith_type1 (PyProof.Rows.args_cons (L2.thn (ha.run pins s σ H (fun x H1 => ∃ (ρ1 : Nat → Addr) (st1 : Sr) (d c : P), RelS C.K O ρ1 H1 st1 ∧ sbP true d = some c ∧ RdP C.K (Mt O ρ1 st1) H1 d x ∧ ∀ H2 v, Stp ρ1 st1 H1 ρ1 st1 H2 → RelS C.K O ρ1 H2 st1 → RepP C.K (Mt O ρ1 st1) H2 c v → Q v H2) I ⟨O, ρ, e, st, R, End.bd R.S h fun x st1 ρ1 H1 v _ s1 S1 r1 h1 => ?_⟩) fun v s1 ⟨x, H1, I1, r1, ρ1, st1, d, c, S1, e1, rd, q⟩ => PyProof.Rows.args_nil ?_) (star_cons _ _ _)) (star_cons _ _ _) rfl
  · split at h1
    · rename_i p e1
      split at h1
      · rename_i c e3
        exact ⟨ρ1, st1, p, c, S1, e3, dd_rd S1 r1 e1, fun H2 v s2 S2 r2 => h1 ρ1 H2 v s2 S2 r2⟩
      · exact h1.elim
    · exact h1.elim
  · unfold sbP at e1
    split at e1
    · rename_i ns e2
      rw [Option.bind_eq_some_iff] at e2
      obtain ⟨ds, e2, e3⟩ := e2
      split at e1
      · rename_i hn
        cases e1
        have fin : ∀ (h' : Heap) (tk c : Nat), SetR C.w h' s1.heap.objs.size (fun j => decide (j ∈ ns)) c → c ≤ ns.length → (∀ b o, s1.heap.get? b = some o → h'.get? b = some o) →
            wpAny (model C.prog C.w) C.A (call (.builtin "sorted") [.ref s1.heap.objs.size]) (EP C pins σ Q) C.xe { s1 with heap := h', toks := tk } := fun h' tk c hS hcl hk => by
          have I2 : Inv C pins σ H1 { s1 with heap := h', toks := tk } := I1.kept hk
          refine L2.sorted_set hS (I2.ok.hd hc) (by omega) fun s' p out c2 ms k g o hp hg' hi hs hmm hl => ?_
          have em : ms = srt ns := up_uni hs (srt_up ns) fun x => by rw [hmm, srt_mem, decide_eq_true_eq]
          subst em
          have hlen : ((srt ns).map V.int).length ≤ sizeLine := by rw [List.length_map, hl]; exact lim_line (by unfold lim; omega)
          have hp' : H1 p = none := I2.hok.fresh hp
          have J : Inv C pins σ (upd H1 p (.lst ((srt ns).map V.int))) { ({ s1 with heap := h', toks := tk } : Shared) with heap := s'.heap, gens := s'.gens, drawn := s'.drawn, toks := s'.toks } :=
            I2.call (ch := []) (L2.Un.laid k hp hp') (I2.hok.laid k hp ⟨hlen, out.toList, c2, L2.vals_of_ints hi, hg'⟩) (by rw [g]; exact I2.bare) (fun _ z => nomatch z)
          have es : s' = { ({ s1 with heap := h', toks := tk } : Shared) with heap := s'.heap, gens := s'.gens, drawn := s'.drawn, toks := s'.toks } := by
            cases s'
            cases s1
            cases o
            rfl
          rw [es]
          exact ⟨.ref p, _, J, rfl, q _ _ (Stp.new S1 hp') (S1.new hp') (rep_newL S1 hp' (req_ints _))⟩
        cases d with
        | list xs =>
          cases e2
          obtain ⟨a', vs, rfl, l, rr⟩ := rd.list
          obtain ⟨f1, f2⟩ := rr.ints e3
          subst f2
          cases r1
          obtain ⟨its, rv, hl, hz⟩ := I1.list l.sq
          exact call_setL ns (I1.ok.hd hc) hl.isList (by simpa using rv.ints) (by unfold scanBound; omega) fun h' tk c R' hle hk => PyProof.Rows.args_nil (fin h' tk c R' hle hk)
        | tuple xs =>
          cases e2
          obtain ⟨a', vs, rfl, l, rr⟩ := rd.tup
          obtain ⟨f1, f2⟩ := rr.ints e3
          subst f2
          cases r1
          obtain ⟨its, rv, hl, hz⟩ := I1.tuple l
          exact L2.call_set_tupI ns (I1.ok.hd hc) hl (by simpa using rv.ints) (by unfold scanBound; omega) fun h' tk c R' hle hk => PyProof.Rows.args_nil (fin h' tk c R' hle hk)
        | _ => cases e2
      · cases e1
    · cases e1
end Mi
end
section
set_option Elab.async false
set_option linter.all false
set_option maxRecDepth 100000
set_option maxHeartbeats 3200000
/-! N4: list(zip(a, b)): zip's next while the tuple it handed out first is kept. -/
section
open PySem PyProof.Rows
namespace Mi
variable {P : Program} {w : World} {A : Around} {E : Value → Shared → Prop} {s : Shared} {z TI TO i1 i2 : Addr} {fp1 fp2 : List Addr} {n1 n2 : Nat} {P1 P2 : Nat → Value → Prop} {St1 St2 : Nat → Heap → Prop} {a1 a2 : Value} {i : Nat}
/-- a zip whose first tuple, at T, is kept; b: whether it was looked at -/
abbrev IsZk (h : Heap) (z TI TO T : Addr) (b : Bool) : Prop := h.get? z = some ⟨.type "zip", none, .fields #[rawInt T, .bool b, .bool false, .ref TI, .ref TO], #[]⟩
theorem zk_free {T : Addr} {b : Bool} {o : Obj} {Q : Bool → Shared → Prop} (hz : IsZk s.heap z TI TO T b) (hT : s.heap.get? T = some o) (hQ : ∀ h', IsZk h' z TI TO T true → Heap.SameBut z s.heap h' → Q false { s with heap := h' }) :
    wpAny (model P w) A (Builtin.SmallTypes.ownedTupleIsFree (.ref z)) Q E s := by
  unfold Builtin.SmallTypes.ownedTupleIsFree
  refine wpAny_bind (wpAny_field hz rfl (x := rawInt T) rfl ?_)
  show wpAny _ _ (loadIfAlive (Int.toNat (T : Nat)) >>= _) _ _ _
  rw [Int.toNat_natCast]
  refine wpAny_bind (PySem.W.kdx_alive hT ?_)
  simp only [Option.isNone_some, Bool.false_eq_true, if_false]
  refine wpAny_bind (wpAny_field hz rfl (x := .bool b) rfl ?_)
  cases b with
  | true =>
    rw [if_neg (by decide)]
    exact wpAny_pure (hQ _ hz (Heap.SameBut.refl _ _))
  | false =>
    rw [if_pos (by decide)]
    refine wpAny_bind (wpAny_setField_rec hz (by simp) fun h1 hz1 hs1 => wpAny_pure ?_)
    exact hQ h1 hz1 hs1
theorem zk_next {T : Addr} {b : Bool} {o : Obj} {Q : Value → Shared → Prop} (S : ZipSep2 z TI TO i1 i2 fp1 fp2) (D1 : Draws P w A i1 fp1 n1 P1 St1) (D2 : Draws P w A i2 fp2 n2 P2 St2)
    (hz : IsZk s.heap z TI TO T b) (hT : s.heap.get? T = some o) (hTI : IsTupOf2 s.heap TI (.ref i1) (.ref i2)) (st1 : St1 i s.heap) (st2 : St2 i s.heap) (hlt1 : i < n1) (hlt2 : i < n2)
    (hQ : ∀ x1 x2 h' tk, P1 i x1 → P2 i x2 → IsZk h' z TI TO T true → St1 (i + 1) h' → St2 (i + 1) h' → IsTupOf2 h' s.heap.objs.size x1 x2 → h'.objs.size = s.heap.objs.size + 1 →
      (∀ c o, c ≠ z → c ≠ i1 → c ≠ i2 → s.heap.get? c = some o → h'.get? c = some o) → Q (.ref s.heap.objs.size) { s with heap := h', toks := tk }) :
    wpAny (model P w) A (Builtin.«zip.__next__» ⟨[.ref z], []⟩) (fun fin s' => ∃ v, fin = .done (.ret v) ∧ Q v s') E s := by
  obtain ⟨hp, g, d, tk0, os⟩ := s
  show wpAny _ _ (field (.ref z) 2 >>= _) _ _ _
  refine wpAny_bind (wpAny_field hz rfl (x := .bool false) rfl ?_)
  show wpAny _ _ (field (.ref z) 3 >>= _) _ _ _
  refine wpAny_bind (wpAny_field hz rfl (x := .ref TI) rfl ?_)
  refine wpAny_bind (wpAny_seqItems hTI rfl ?_)
  show wpAny _ _ (Builtin.SmallTypes.ownedTupleIsFree (.ref z) >>= _) _ _ _
  refine wpAny_bind (zk_free hz hT fun h1 hz1 hs1 => ?_)
  replace hs1 : Heap.SameBut z hp h1 := hs1
  simp only [Bool.false_eq_true, if_false]
  rw [← Array.forIn_toList]
  simp only [List.forIn_cons, List.forIn_nil]
  refine wpAny_bind (wpAny_bind (wpAny_bind (wpAny_holding ?_)))
  show wpAny _ _ (Builtin.SmallTypes.nextOf (.ref i1) >>= _) _ _ ⟨h1, g, d, tk0, os⟩
  refine wpAny_bind (D1.item i _ _ _ hlt1 (D1.over st1 hs1 S.zf1) fun x1 p1 tk1 hx1 sn1 hp1 => wpAny_pure (wpAny_pure ?_))
  replace hp1 : Heap.SameBut i1 h1 p1 := hp1
  refine wpAny_bind (wpAny_bind (wpAny_holding ?_))
  show wpAny _ _ (Builtin.SmallTypes.nextOf (.ref i2) >>= _) _ _ ⟨p1, g, d, tk1, os⟩
  refine wpAny_bind (D2.item i _ _ _ hlt2 (D2.over (D2.over st2 hs1 S.zf2) hp1 S.sep1_2) fun x2 p2 tk2 hx2 sn2 hp2 => wpAny_pure (wpAny_pure ?_))
  replace hp2 : Heap.SameBut i2 p1 p2 := hp2
  refine wpAny_pure ?_
  show wpAny _ _ (newTuple [x1, x2] >>= _) _ _ ⟨p2, g, d, tk2, os⟩
  refine wpAny_bind (wpAny_newTuple ?_)
  have hsz : p2.objs.size = hp.objs.size := by rw [hp2.1, hp1.1, hs1.1]
  have hzz : IsZk p2 z TI TO T true := hp2.extBut _ _ S.zi2 (hp1.extBut _ _ S.zi1 hz1)
  have kk : ∀ c o, c ≠ z → c ≠ i1 → c ≠ i2 → hp.get? c = some o → p2.get? c = some o := fun c o cz c1 c2 e => hp2.extBut _ _ c2 (hp1.extBut _ _ c1 (hs1.extBut _ _ cz e))
  have up : ∀ c o, p2.get? c = some o → (p2.push { cls := .type "tuple", data := .seq #[x1, x2] }).get? c = some o := fun c o e => Heap.get?_push_of_some _ e
  refine wpAny_pure ⟨_, rfl, ?_⟩
  have gT := Heap.get?_push_size p2 (o := { cls := .type "tuple", data := .seq #[x1, x2] }) rfl
  rw [hsz] at gT
  show Q (.ref p2.objs.size) _
  rw [hsz]
  exact hQ x1 x2 _ tk2 hx1 hx2 (up _ _ hzz) (D1.frame _ _ _ (D1.over sn1 hp2 S.sep2_1) fun b _ o e => up b o e) (D2.frame _ _ _ sn2 fun b _ o e => up b o e) gT (by rw [Heap.size_push, hsz]) fun c o cz c1 c2 e => up c o (kk c o cz c1 c2 e)
theorem zk_end {T : Addr} {b : Bool} {o : Obj} {Q : Fin → Shared → Prop} (S : ZipSep2 z TI TO i1 i2 fp1 fp2) (D1 : Draws P w A i1 fp1 n1 P1 St1) (D2 : Draws P w A i2 fp2 n2 P2 St2)
    (hz : IsZk s.heap z TI TO T b) (hT : s.heap.get? T = some o) (hTI : IsTupOf2 s.heap TI (.ref i1) (.ref i2)) (st1 : St1 i s.heap) (st2 : St2 i s.heap) (hle1 : i ≤ n1) (hle2 : i ≤ n2) (hend : i = n1 ∨ i = n2)
    (hE : ∀ h' tk e, (∀ c o, c ≠ z → c ≠ i1 → c ≠ i2 → s.heap.get? c = some o → h'.get? c = some o) → (∃ o, h'.get? e = some o ∧ o.cls = .type "StopIteration") → E (.ref e) { s with heap := h', toks := tk }) :
    wpAny (model P w) A (Builtin.«zip.__next__» ⟨[.ref z], []⟩) Q E s := by
  obtain ⟨hp, g, d, tk0, os⟩ := s
  show wpAny _ _ (field (.ref z) 2 >>= _) _ _ _
  refine wpAny_bind (wpAny_field hz rfl (x := .bool false) rfl ?_)
  show wpAny _ _ (field (.ref z) 3 >>= _) _ _ _
  refine wpAny_bind (wpAny_field hz rfl (x := .ref TI) rfl ?_)
  refine wpAny_bind (wpAny_seqItems hTI rfl ?_)
  show wpAny _ _ (Builtin.SmallTypes.ownedTupleIsFree (.ref z) >>= _) _ _ _
  refine wpAny_bind (zk_free hz hT fun h1 hz1 hs1 => ?_)
  replace hs1 : Heap.SameBut z hp h1 := hs1
  simp only [Bool.false_eq_true, if_false]
  rw [← Array.forIn_toList]
  simp only [List.forIn_cons, List.forIn_nil]
  refine wpAny_bind (wpAny_bind (wpAny_bind (wpAny_holding ?_)))
  show wpAny _ _ (Builtin.SmallTypes.nextOf (.ref i1) >>= _) _ _ ⟨h1, g, d, tk0, os⟩
  by_cases q : i = n1
  · subst q
    exact wpAny_bind (D1.done _ _ _ (D1.over st1 hs1 S.zf1) fun h2 e hk he => hE h2 tk0 e (fun c o cz c1 _ x => hk _ _ c1 (hs1.extBut _ _ cz x)) he)
  · refine wpAny_bind (D1.item i _ _ _ (by omega) (D1.over st1 hs1 S.zf1) fun x1 p1 tk1 hx1 sn1 hp1 => wpAny_pure (wpAny_pure ?_))
    replace hp1 : Heap.SameBut i1 h1 p1 := hp1
    have q2 : i = n2 := hend.resolve_left q
    subst q2
    refine wpAny_bind (wpAny_bind (wpAny_holding ?_))
    show wpAny _ _ (Builtin.SmallTypes.nextOf (.ref i2) >>= _) _ _ ⟨p1, g, d, tk1, os⟩
    exact wpAny_bind (D2.done _ _ _ (D2.over (D2.over st2 hs1 S.zf2) hp1 S.sep1_2) fun h2 e hk he => hE h2 tk1 e (fun c o cz c1 c2 x => hk _ _ c2 (hp1.extBut _ _ c1 (hs1.extBut _ _ cz x))) he)
theorem py_zk_next {T : Addr} {b : Bool} {o : Obj} {Q : Option Value → Shared → Prop} (S : ZipSep2 z TI TO i1 i2 fp1 fp2) (D1 : Draws P w A.in1 i1 fp1 n1 P1 St1) (D2 : Draws P w A.in1 i2 fp2 n2 P2 St2)
    (hz : IsZk s.heap z TI TO T b) (hT : s.heap.get? T = some o) (hTI : IsTupOf2 s.heap TI (.ref i1) (.ref i2)) (st1 : St1 i s.heap) (st2 : St2 i s.heap) (hlt1 : i < n1) (hlt2 : i < n2)
    (hQ : ∀ x1 x2 h' tk, P1 i x1 → P2 i x2 → IsZk h' z TI TO T true → St1 (i + 1) h' → St2 (i + 1) h' → IsTupOf2 h' s.heap.objs.size x1 x2 → h'.objs.size = s.heap.objs.size + 1 →
      (∀ c o, c ≠ z → c ≠ i1 → c ≠ i2 → s.heap.get? c = some o → h'.get? c = some o) → Q (some (.ref s.heap.objs.size)) { s with heap := h', toks := tk }) :
    wpAny (model P w) A (pyNext (.ref z)) Q E s := by
  have ty : s.TypeIs (.ref z) "zip" := ⟨_, hz, rfl⟩
  unfold pyNext
  refine wpAny_bind (wpAny_attempt (wpAny_callSpecial?_slot (name := Str.ofString "__next__") ty F.slot_zip_next (wpAny_call_entry F.slot_zip_next ty F.entry_zip_next ?_ (F.args_zip_next_1 _))))
  exact zk_next S D1 D2 hz hT hTI st1 st2 hlt1 hlt2 fun x1 x2 h' tk a1 a2 a3 a4 a5 a6 a7 a8 => wpAny_pure (hQ x1 x2 h' tk a1 a2 a3 a4 a5 a6 a7 a8)
theorem py_zk_end {T : Addr} {b : Bool} {o : Obj} {Q : Option Value → Shared → Prop} (S : ZipSep2 z TI TO i1 i2 fp1 fp2) (D1 : Draws P w A.in1 i1 fp1 n1 P1 St1) (D2 : Draws P w A.in1 i2 fp2 n2 P2 St2)
    (hz : IsZk s.heap z TI TO T b) (hT : s.heap.get? T = some o) (hTI : IsTupOf2 s.heap TI (.ref i1) (.ref i2)) (st1 : St1 i s.heap) (st2 : St2 i s.heap) (hle1 : i ≤ n1) (hle2 : i ≤ n2) (hend : i = n1 ∨ i = n2)
    (hQ : ∀ h' tk, (∀ c o, c ≠ z → c ≠ i1 → c ≠ i2 → s.heap.get? c = some o → h'.get? c = some o) → Q none { s with heap := h', toks := tk }) : wpAny (model P w) A (pyNext (.ref z)) Q E s := by
  have ty : s.TypeIs (.ref z) "zip" := ⟨_, hz, rfl⟩
  unfold pyNext
  refine wpAny_bind (wpAny_attempt (wpAny_callSpecial?_slot (name := Str.ofString "__next__") ty F.slot_zip_next (wpAny_call_entry F.slot_zip_next ty F.entry_zip_next (zk_end S D1 D2 hz hT hTI st1 st2 hle1 hle2 hend fun h' tk e hk he => ?_) (F.args_zip_next_1 _))))
  obtain ⟨o, ho, hc⟩ := he
  exact wpAny_bind (wpAny_isInstance (T := "StopIteration") (b := true) ⟨o, ho, hc⟩ isSubtype_stop (wpAny_pure (hQ _ _ hk)))
end Mi
end
end
section
set_option Elab.async false
set_option linter.all false
set_option maxRecDepth 100000
set_option maxHeartbeats 3200000
/-! N5: list.extend over a zip. -/
section
open PySem PyProof.Rows
namespace Mi
variable {P : Program} {w : World} {A : Around} {E : Value → Shared → Prop} {z TI TO i1 i2 S : Addr} {fp1 fp2 : List Addr} {m0 : Addr} {n1 n2 : Nat} {P1 P2 : Nat → Value → Prop} {St1 St2 : Nat → Heap → Prop} {h0 : Heap}
/-- so many tuples handed out and kept in the list at S -/
structure ZL (z TI TO S : Addr) (i1 i2 m0 : Addr) (P1 P2 : Nat → Value → Prop) (St1 St2 : Nat → Heap → Prop) (h0 : Heap) (i : Nat) (Ts : List Addr) (h : Heap) : Prop where
  zip : (Ts = [] ∧ IsZip h z TI TO .none ∧ ∃ a b, IsTupOf2 h TO a b) ∨ ∃ T b, T ∈ Ts ∧ IsZk h z TI TO T b
  ti : IsTupOf2 h TI (.ref i1) (.ref i2)
  eo : ∃ o, h.get? TO = some o
  st1 : St1 i h
  st2 : St2 i h
  len : Ts.length = i
  lst : ∃ c, h.get? S = some ⟨.type "list", none, .seq (Ts.map Value.ref).toArray c, #[]⟩
  tup : ∀ j T, Ts[j]? = some T → ∃ x y, P1 j x ∧ P2 j y ∧ IsTupOf2 h T x y
  new : ∀ T ∈ Ts, m0 ≤ T ∧ T < h.objs.size ∧ T ≠ z ∧ T ≠ TO ∧ T ≠ i1 ∧ T ≠ i2 ∧ T ≠ S
  nd : Ts.Nodup
  old : ∀ b o, b < m0 → h0.get? b = some o → h.get? b = some o
theorem zl_loop (Z : ZipSep2 z TI TO i1 i2 fp1 fp2) (D1 : Draws P w A.in1.in1 i1 fp1 n1 P1 St1) (D2 : Draws P w A.in1.in1 i2 fp2 n2 P2 St2) (hS : S ∉ z :: TI :: TO :: (fp1 ++ fp2)) (hm : m0 ≤ z ∧ m0 ≤ TI ∧ m0 ≤ TO ∧ m0 ≤ i1 ∧ m0 ≤ i2 ∧ m0 ≤ S) (hn : min n1 n2 < 1000000) {R : Result → Shared → Prop} (res : Value) :
    ∀ (k i : Nat) (s : Shared) (Ts : List Addr), min n1 n2 - i = k → i ≤ n1 → i ≤ n2 → ZL z TI TO S i1 i2 m0 P1 P2 St1 St2 h0 i Ts s.heap →
    (∀ (h' : Heap) (tk : Nat) (Ts : List Addr), Ts.length = min n1 n2 → (∃ c, h'.get? S = some ⟨.type "list", none, .seq (Ts.map Value.ref).toArray c, #[]⟩) → (∀ j T, Ts[j]? = some T → ∃ x y, P1 j x ∧ P2 j y ∧ IsTupOf2 h' T x y) → (∀ T ∈ Ts, m0 ≤ T ∧ T ≠ S) → Ts.Nodup → (∀ b o, b < m0 → h0.get? b = some o → h'.get? b = some o) → R (.ok (.ret res)) { s with heap := h', toks := tk }) →
    codeAny (model P w) A (.builtin "list.extend.loop" ⟨[.ref S, .ref z, res], []⟩) R s := by
  intro k
  induction k with
  | zero =>
    intro i s Ts hk h1 h2 I hR
    refine codeAny_builtin PySem.F.entry_extend_loop ?_
    rw [Around.under_plainId PySem.F.plain_extend_loop _]
    show wpAny _ A.in1 (pyNext (.ref z) >>= _) _ _ s
    have hin : min n1 n2 = i := by omega
    have he : i = n1 ∨ i = n2 := by omega
    have fin : ∀ h' tk, (∀ c o, c ≠ z → c ≠ TO → c ≠ i1 → c ≠ i2 → s.heap.get? c = some o → h'.get? c = some o) → R (.ok (.ret res)) { s with heap := h', toks := tk } := fun h' tk kp => by
      have hSz : S ≠ z := fun q => hS (by rw [q]; simp)
      have hSO : S ≠ TO := fun q => hS (by rw [q]; simp)
      have hS1 : S ≠ i1 := fun q => hS (by rw [q]; simp [Z.mem1])
      have hS2 : S ≠ i2 := fun q => hS (by rw [q]; simp [Z.mem2])
      refine hR h' tk Ts (by rw [I.len, hin]) ?_ (fun j T e => ?_) (fun T hT => ⟨(I.new T hT).1, (I.new T hT).2.2.2.2.2.2⟩) I.nd fun b o hb e => ?_
      · obtain ⟨c, e⟩ := I.lst
        exact ⟨c, kp _ _ hSz hSO hS1 hS2 e⟩
      · obtain ⟨x, y, a1, a2, a3⟩ := I.tup j T e
        have nw := I.new T (List.mem_of_getElem? e)
        exact ⟨x, y, a1, a2, kp _ _ nw.2.2.1 nw.2.2.2.1 nw.2.2.2.2.1 nw.2.2.2.2.2.1 a3⟩
      · exact kp _ _ (fun q => by rw [q] at hb; exact Nat.not_lt.mpr hm.1 hb) (fun q => by rw [q] at hb; exact Nat.not_lt.mpr hm.2.2.1 hb) (fun q => by rw [q] at hb; exact Nat.not_lt.mpr hm.2.2.2.1 hb) (fun q => by rw [q] at hb; exact Nat.not_lt.mpr hm.2.2.2.2.1 hb) (I.old b o hb e)
    rcases I.zip with ⟨e, hz, a, b, hO⟩ | ⟨T, b, hT, hz⟩
    · exact wpAny_bind (wpAny_pyNext_zipD2_end Z D1 D2 hz I.ti hO I.st1 I.st2 h1 h2 he fun h' tk kp => wpAny_pure (fin h' tk kp))
    · obtain ⟨j, hj, ej⟩ := List.getElem_of_mem hT
      obtain ⟨x, y, _, _, eT⟩ := I.tup j T (by rw [List.getElem?_eq_getElem hj, ej])
      exact wpAny_bind (py_zk_end Z D1 D2 hz eT I.ti I.st1 I.st2 h1 h2 he fun h' tk kp => wpAny_pure (fin h' tk fun c o c1 _ c3 c4 e => kp c o c1 c3 c4 e))
  | succ k ih =>
    intro i s Ts hk h1 h2 I hR
    refine codeAny_builtin PySem.F.entry_extend_loop ?_
    rw [Around.under_plainId PySem.F.plain_extend_loop _]
    show wpAny _ A.in1 (pyNext (.ref z) >>= _) _ _ s
    have hlt1 : i < n1 := by omega
    have hlt2 : i < n2 := by omega
    have hSz : S ≠ z := fun q => hS (by rw [q]; simp)
    have hSI : S ≠ TI := fun q => hS (by rw [q]; simp)
    have hSO : S ≠ TO := fun q => hS (by rw [q]; simp)
    have hS1 : S ≠ i1 := fun q => hS (by rw [q]; simp [Z.mem1])
    have hS2 : S ≠ i2 := fun q => hS (by rw [q]; simp [Z.mem2])
    have f1 : S ∉ fp1 := fun q => hS (by simp [q])
    have f2 : S ∉ fp2 := fun q => hS (by simp [q])
    have go : ∀ (x1 x2 : Value) (h' : Heap) (tk : Nat) (T0 : Addr) (b0 : Bool), P1 i x1 → P2 i x2 → IsZk h' z TI TO T0 b0 → T0 ∈ Ts ++ [s.heap.objs.size] → St1 (i + 1) h' → St2 (i + 1) h' → IsTupOf2 h' s.heap.objs.size x1 x2 → h'.objs.size = s.heap.objs.size + 1 → (∃ o, h'.get? TO = some o) →
        (∀ c o, c ≠ z → c ≠ TO → c ≠ i1 → c ≠ i2 → s.heap.get? c = some o → h'.get? c = some o) →
        wpAny (model P w) A.in1 (updateSeq S (·.push (.ref s.heap.objs.size)) >>= fun _ => again (.builtin "list.extend.loop" ⟨[.ref S, .ref z, res], []⟩)) (fun fin s' => match fin with | .done f => R (.ok f) s' | .again c' => c'.quiet = true ∧ codeAny (model P w) A c' R s') (fun e s' => R (.error e) s') { s with heap := h', toks := tk } := by
      intro x1 x2 h' tk T0 b0 hx1 hx2 hz' hT0 st1 st2 hT' hsz eO' kp
      obtain ⟨c, eS⟩ := I.lst
      have eS' := kp _ _ hSz hSO hS1 hS2 eS
      have ltS : S < s.heap.objs.size := Heap.lt_size eS
      have lz : ∀ {c o}, s.heap.get? c = some o → s.heap.objs.size ≠ c := fun e => Nat.ne_of_gt (Heap.lt_size e)
      have ez : ∃ o, s.heap.get? z = some o := by
        rcases I.zip with ⟨_, hz, _⟩ | ⟨_, _, _, hz⟩
        · exact ⟨_, hz⟩
        · exact ⟨_, hz⟩
      obtain ⟨oO, eO⟩ := I.eo
      obtain ⟨oz, ez⟩ := ez
      obtain ⟨o1, e1⟩ := D1.live _ _ I.st1
      obtain ⟨o2, e2⟩ := D2.live _ _ I.st2
      have accz : (Ts.map Value.ref).toArray.size = i := by simp [I.len]
      have oth : ∀ c o, c ≠ S → h'.get? c = some o → (h'.update S (Obj.mapSeq (·.push (.ref s.heap.objs.size)))).get? c = some o := fun c o hc e => (Heap.get?_update_other _ _ (Ne.symm hc)).trans e
      refine wpAny_bind (wpAny_updateSeq eS' rfl (wpAny_pure ⟨plainId_quiet PySem.F.plain_extend_loop _, ih (i + 1) _ (Ts ++ [s.heap.objs.size]) (by omega) (by omega) (by omega) ?_ ?_⟩) ?_ ?_)
      · refine ⟨.inr ⟨T0, b0, hT0, oth _ _ hSz.symm hz'⟩, oth _ _ hSI.symm (kp _ _ Z.TIz Z.TITO Z.TIi1 Z.TIi2 I.ti), ?_, D1.frame _ _ _ st1 fun b hb o e => oth b o (fun q => f1 (q ▸ hb)) e, D2.frame _ _ _ st2 fun b hb o e => oth b o (fun q => f2 (q ▸ hb)) e, by simp [I.len], ?_, fun j T e => ?_, fun T hT => ?_, ?_, fun b o hb e => ?_⟩
        · obtain ⟨o, e⟩ := eO'
          exact ⟨o, oth _ _ hSO.symm e⟩
        · have e := Heap.get?_update_self (Obj.mapSeq (·.push (.ref s.heap.objs.size))) eS' rfl
          have el : ((Ts ++ [s.heap.objs.size]).map Value.ref).toArray = (Ts.map Value.ref).toArray.push (.ref s.heap.objs.size) := by simp
          rw [el]
          exact ⟨_, e⟩
        · rcases Nat.lt_or_ge j Ts.length with q | q
          · rw [List.getElem?_append_left q] at e
            obtain ⟨x, y, a1, a2, a3⟩ := I.tup j T e
            have nw := I.new T (List.mem_of_getElem? e)
            exact ⟨x, y, a1, a2, oth _ _ nw.2.2.2.2.2.2 (kp _ _ nw.2.2.1 nw.2.2.2.1 nw.2.2.2.2.1 nw.2.2.2.2.2.1 a3)⟩
          · rw [List.getElem?_append_right q] at e
            have ej : j - Ts.length = 0 := by
              refine Nat.eq_zero_of_not_pos fun p => ?_
              rw [List.getElem?_eq_none (by simp; omega)] at e
              cases e
            rw [ej] at e
            have : s.heap.objs.size = T := by simpa using e
            subst this
            have : j = i := by have := I.len; omega
            subst this
            exact ⟨x1, x2, hx1, hx2, oth _ _ (Nat.ne_of_gt ltS) hT'⟩
        · have hsz2 : (h'.update S (Obj.mapSeq (·.push (.ref s.heap.objs.size)))).objs.size = s.heap.objs.size + 1 := by rw [Heap.size_update, hsz]
          rcases List.mem_append.mp hT with q | q
          · have nw := I.new T q
            exact ⟨nw.1, by rw [hsz2]; exact Nat.lt_succ_of_lt nw.2.1, nw.2.2⟩
          · rw [List.mem_singleton.mp q]
            exact ⟨Nat.le_trans hm.2.2.2.2.2 (Nat.le_of_lt ltS), by rw [hsz2]; exact Nat.lt_succ_self _, lz ez, lz eO, lz e1, lz e2, Nat.ne_of_gt ltS⟩
        · refine List.nodup_append.mpr ⟨I.nd, by simp, fun a ha b hb => ?_⟩
          rw [List.mem_singleton.mp hb]
          exact Nat.ne_of_lt (I.new a ha).2.1
        · have bS : b ≠ S := fun q => by rw [q] at hb; exact Nat.not_lt.mpr hm.2.2.2.2.2 hb
          exact oth _ _ bS (kp _ _ (fun q => by rw [q] at hb; exact Nat.not_lt.mpr hm.1 hb) (fun q => by rw [q] at hb; exact Nat.not_lt.mpr hm.2.2.1 hb) (fun q => by rw [q] at hb; exact Nat.not_lt.mpr hm.2.2.2.1 hb) (fun q => by rw [q] at hb; exact Nat.not_lt.mpr hm.2.2.2.2.1 hb) (I.old b o hb e))
      · intro h2 tk2 Ts2 a1 a2 a3 a4 a5 a6
        exact hR h2 tk2 Ts2 a1 a2 a3 a4 a5 a6
      · rw [accz]
        have : sizeLine = 16777216 := rfl
        omega
      · show ((Ts.map Value.ref).toArray.push _).size ≤ sizeLine + 1
        rw [Array.size_push, accz]
        have : sizeLine = 16777216 := rfl
        omega
    rcases I.zip with ⟨e, hz, a, b, hO⟩ | ⟨T, b, hT, hz⟩
    · refine wpAny_bind (wpAny_pyNext_zipD2_item Z D1 D2 hz I.ti hO I.st1 I.st2 hlt1 hlt2 fun x1 x2 h' tk y1 y2 b1 b2 d1 d2 b5 b6 b7 => ?_)
      exact go x1 x2 h' tk s.heap.objs.size false y1 y2 b1 (by simp) d1 d2 b5 b6 ⟨_, b2⟩ b7
    · obtain ⟨j, hj, ej⟩ := List.getElem_of_mem hT
      obtain ⟨x, y, _, _, eT⟩ := I.tup j T (by rw [List.getElem?_eq_getElem hj, ej])
      have kO : ∀ {h' : Heap}, St1 (i + 1) h' → St2 (i + 1) h' → (∀ c o, c ≠ z → c ≠ i1 → c ≠ i2 → s.heap.get? c = some o → h'.get? c = some o) → ∃ o, h'.get? TO = some o := fun _ _ kp => by
        obtain ⟨o, e⟩ := I.eo
        exact ⟨o, kp _ _ Z.TOz (fun q => Z.Tf1 (q ▸ Z.mem1)) (fun q => Z.Tf2 (q ▸ Z.mem2)) e⟩
      refine wpAny_bind (py_zk_next Z D1 D2 hz eT I.ti I.st1 I.st2 hlt1 hlt2 fun x1 x2 h' tk y1 y2 b1 d1 d2 b5 b6 b7 => ?_)
      exact go x1 x2 h' tk T true y1 y2 b1 (by simp [hT]) d1 d2 b5 b6 (kO d1 d2 b7) fun c o c1 _ c3 c4 e => b7 c o c1 c3 c4 e
end Mi
end
end
section
set_option Elab.async false
set_option linter.all false
set_option maxRecDepth 100000
set_option maxHeartbeats 3200000
/-! N6: list(z), z a zip. -/
section
open PySem PyProof.Rows
namespace Mi
theorem zip_nlen : typeLookup (.type "zip") "__len__" = pure none := by rw [typeLookup_type, builtinLookup_eq_fast]; kernel_rfl
theorem zip_nhint : typeLookup (.type "zip") "__length_hint__" = pure none := by rw [typeLookup_type, builtinLookup_eq_fast]; kernel_rfl
variable {P : Program} {w : World} {A : Around} {E : Value → Shared → Prop} {s : Shared} {z TI TO i1 i2 S : Addr} {fp1 fp2 : List Addr} {m0 : Addr} {n1 n2 : Nat} {P1 P2 : Nat → Value → Prop} {St1 St2 : Nat → Heap → Prop} {h0 : Heap}
theorem ZL.go {h h' : Heap} (D1 : Draws P w A i1 fp1 n1 P1 St1) (D2 : Draws P w A i2 fp2 n2 P2 St2) (hS : S ∉ z :: TI :: TO :: (fp1 ++ fp2)) (hm : m0 ≤ S) (I : ZL z TI TO S i1 i2 m0 P1 P2 St1 St2 h0 0 [] h)
    (k : ∀ b o, b ≠ S → h.get? b = some o → h'.get? b = some o) (l : ∃ c, h'.get? S = some ⟨.type "list", none, .seq #[] c, #[]⟩) : ZL z TI TO S i1 i2 m0 P1 P2 St1 St2 h0 0 [] h' := by
  have hSz : z ≠ S := fun q => hS (by rw [← q]; simp)
  have hSI : TI ≠ S := fun q => hS (by rw [← q]; simp)
  have hSO : TO ≠ S := fun q => hS (by rw [← q]; simp)
  refine ⟨?_, k _ _ hSI I.ti, ?_, D1.frame _ _ _ I.st1 fun b hb o e => k b o (fun q => hS (by rw [← q]; simp [hb])) e, D2.frame _ _ _ I.st2 fun b hb o e => k b o (fun q => hS (by rw [← q]; simp [hb])) e, rfl, l, fun j T e => (by simp at e), fun T hT => (by cases hT), List.nodup_nil, fun b o hb e => ?_⟩
  · rcases I.zip with ⟨_, hz, a, b, hO⟩ | ⟨T, b, hT, _⟩
    · exact .inl ⟨rfl, k _ _ hSz hz, a, b, k _ _ hSO hO⟩
    · cases hT
  · obtain ⟨o, e⟩ := I.eo
    exact ⟨o, k _ _ hSO e⟩
  · exact k b o (fun q => by rw [q] at hb; exact Nat.not_lt.mpr hm hb) (I.old b o hb e)
/-- what list(z) ends with -/
abbrev ZE (S m0 : Addr) (n : Nat) (P1 P2 : Nat → Value → Prop) (h0 h' : Heap) (Ts : List Addr) : Prop :=
  Ts.length = n ∧ (∃ c, h'.get? S = some ⟨.type "list", none, .seq (Ts.map Value.ref).toArray c, #[]⟩) ∧ (∀ j T, Ts[j]? = some T → ∃ x y, P1 j x ∧ P2 j y ∧ IsTupOf2 h' T x y) ∧ (∀ T ∈ Ts, m0 ≤ T ∧ T ≠ S) ∧ Ts.Nodup ∧ ∀ b o, b < m0 → h0.get? b = some o → h'.get? b = some o
theorem zl_extend (Z : ZipSep2 z TI TO i1 i2 fp1 fp2) (D1 : Draws P w A.in1.in1 i1 fp1 n1 P1 St1) (D2 : Draws P w A.in1.in1 i2 fp2 n2 P2 St2) (hS : S ∉ z :: TI :: TO :: (fp1 ++ fp2)) (hm : m0 ≤ z ∧ m0 ≤ TI ∧ m0 ≤ TO ∧ m0 ≤ i1 ∧ m0 ≤ i2 ∧ m0 ≤ S) (hn : min n1 n2 < 1000000) {R : Result → Shared → Prop} (res : Value)
    (I : ZL z TI TO S i1 i2 m0 P1 P2 St1 St2 h0 0 [] s.heap) (hR : ∀ (h' : Heap) (tk : Nat) (Ts : List Addr), ZE S m0 (min n1 n2) P1 P2 h0 h' Ts → R (.ok (.ret res)) { s with heap := h', toks := tk }) :
    wpAny (model P w) A.in1 (Builtin.List.listExtendWith (.ref S) (.ref z) res) (fun fin s' => match fin with | .done f => R (.ok f) s' | .again c' => c'.quiet = true ∧ codeAny (model P w) A c' R s') (fun e s' => R (.error e) s') s := by
  obtain ⟨c, eS⟩ := I.lst
  have hz : IsZip s.heap z TI TO .none := by
    rcases I.zip with ⟨_, hz, _⟩ | ⟨T, b, hT, _⟩
    · exact hz
    · cases hT
  have ty : s.TypeIs (.ref z) "zip" := ⟨_, hz, rfl⟩
  have hSz : S ≠ z := fun q => hS (by rw [q]; simp)
  unfold Builtin.List.listExtendWith
  refine wpAny_bind (wpAny_typeOf ty ?_)
  have q1 : Builtin.List.listSameRef (.ref S) (.ref z) = false := by simp [Builtin.List.listSameRef, hSz]
  have q2 : (Value.type "zip" == Value.type "list") = false := by decide
  have q3 : (Value.type "zip" == Value.type "tuple") = false := by decide
  simp only [q1, q2, q3, Bool.or_false, Bool.false_eq_true, if_false]
  refine wpAny_bind (wpAny_pyIter_zip hz ?_)
  refine wpAny_bind (wpAny_holding ?_)
  unfold Builtin.List.listLengthHint
  refine wpAny_bind (wpAny_specialOf ty zip_nlen ?_)
  show wpAny _ A.in1 (specialOf (Value.ref z) (Str.ofString "__length_hint__") >>= _) _ _ _
  refine wpAny_bind (wpAny_specialOf ty zip_nhint (wpAny_pure ?_))
  show wpAny _ A.in1 (rule "list.extend.makes-room" >>= fun _ => Builtin.List.listTouch (.ref S) >>= fun _ => again (.builtin "list.extend.loop" ⟨[.ref S, .ref z, res], []⟩)) _ _ _
  refine wpAny_bind (wpAny_rule (wpAny_bind ?_))
  show wpAny _ A.in1 (updateSeq S (·.push .none) >>= fun _ => updateSeq S (·.pop)) _ _ _
  have u1 := Heap.get?_update_self (Obj.mapSeq (·.push Value.none)) eS rfl
  have u2 := Heap.get?_update_self (Obj.mapSeq (·.pop)) u1 rfl
  refine wpAny_bind (wpAny_updateSeq eS rfl ?_)
  refine wpAny_updateSeq (hz := by seq_fits) u1 rfl (wpAny_pure ⟨plainId_quiet PySem.F.plain_extend_loop _, zl_loop Z D1 D2 hS hm hn res (min n1 n2 - 0) 0 _ [] rfl (Nat.zero_le _) (Nat.zero_le _) (I.go D1 D2 hS hm.2.2.2.2.2 (fun b o hb e => (Heap.get?_update_other _ _ (Ne.symm hb)).trans ((Heap.get?_update_other _ _ (Ne.symm hb)).trans e)) ⟨_, u2⟩) fun h' tk Ts a1 a2 a3 a4 a5 a6 => hR h' tk Ts ⟨a1, a2, a3, a4, a5, a6⟩⟩)
theorem zl_init (Z : ZipSep2 z TI TO i1 i2 fp1 fp2) (D1 : Draws P w A.in1.in1 i1 fp1 n1 P1 St1) (D2 : Draws P w A.in1.in1 i2 fp2 n2 P2 St2) (hS : S ∉ z :: TI :: TO :: (fp1 ++ fp2)) (hm : m0 ≤ z ∧ m0 ≤ TI ∧ m0 ≤ TO ∧ m0 ≤ i1 ∧ m0 ≤ i2 ∧ m0 ≤ S) (hn : min n1 n2 < 1000000) {R : Result → Shared → Prop}
    (I : ZL z TI TO S i1 i2 m0 P1 P2 St1 St2 h0 0 [] s.heap) (hR : ∀ (h' : Heap) (tk : Nat) (Ts : List Addr), ZE S m0 (min n1 n2) P1 P2 h0 h' Ts → R (.ok (.ret .none)) { s with heap := h', toks := tk }) :
    wpAny (model P w) A.in1 (Builtin.«list.__init__» ⟨[.ref S, .ref z], []⟩) (fun fin s' => match fin with | .done f => R (.ok f) s' | .again c' => c'.quiet = true ∧ codeAny (model P w) A c' R s') (fun e s' => R (.error e) s') s := by
  obtain ⟨c, eS⟩ := I.lst
  show wpAny _ _ (do let old ← Builtin.List.listItems (.ref S); Builtin.List.listUpdate (.ref S) (fun _ => #[]); letGo old.toList.reverse; Builtin.List.listExtendWith (.ref S) (.ref z) .none) _ _ s
  refine wpAny_bind ?_
  unfold Builtin.List.listItems
  refine wpAny_bind (wpAny_seqItems eS rfl (wpAny_pure ?_))
  show wpAny _ _ (updateSeq S (fun _ => #[]) >>= fun _ => letGo (#[] : Array Value).toList.reverse >>= fun _ => Builtin.List.listExtendWith (.ref S) (.ref z) .none) _ _ s
  refine wpAny_bind (wpAny_updateSeq eS rfl ?_)
  have u1 := Heap.get?_update_self (Obj.mapSeq (fun _ => (#[] : Array Value))) eS rfl
  exact wpAny_bind (wpAny_letGo (zl_extend Z D1 D2 hS hm hn .none (I.go D1 D2 hS hm.2.2.2.2.2 (fun b o hb e => (Heap.get?_update_other _ _ (Ne.symm hb)).trans e) ⟨_, u1⟩) fun h' tk Ts a => hR h' tk Ts a))
theorem call_list_z (Z : ZipSep2 z TI TO i1 i2 fp1 fp2) (D1 : Draws P w A.in1.in1.in1 i1 fp1 n1 P1 St1) (D2 : Draws P w A.in1.in1.in1 i2 fp2 n2 P2 St2) (hS : s.heap.objs.size ∉ z :: TI :: TO :: (fp1 ++ fp2)) (hm : m0 ≤ z ∧ m0 ≤ TI ∧ m0 ≤ TO ∧ m0 ≤ i1 ∧ m0 ≤ i2 ∧ m0 ≤ s.heap.objs.size) (hn : min n1 n2 < 1000000)
    (hz : IsZip s.heap z TI TO .none) (hTI : IsTupOf2 s.heap TI (.ref i1) (.ref i2)) (hTO : ∃ a b, IsTupOf2 s.heap TO a b) (st1 : St1 0 s.heap) (st2 : St2 0 s.heap) (old : ∀ b o, b < m0 → h0.get? b = some o → s.heap.get? b = some o) {Q : Value → Shared → Prop}
    (hQ : ∀ (h' : Heap) (tk : Nat) (Ts : List Addr), ZE s.heap.objs.size m0 (min n1 n2) P1 P2 h0 h' Ts → Q (.ref s.heap.objs.size) { s with heap := h', toks := tk }) :
    wpAny (model P w) A (call (.type "list") [.ref z]) Q E s := by
  refine callType_codes (Q₁ := fun x t => x = .ref s.heap.objs.size ∧ t = { s with heap := s.heap.push { cls := .type "list", data := .seq #[] } }) PySem.F.called_list (PySem.F.typeCall_list_1 _) PySem.F.entry_list_init (code_list_new _ ⟨rfl, rfl⟩) fun x t ht => ?_
  obtain ⟨rfl, rfl⟩ := ht
  have eS : (s.heap.push { cls := .type "list", data := .seq #[] }).get? s.heap.objs.size = some { cls := .type "list", data := .seq #[] } := Heap.get?_push_size _ rfl
  have up : ∀ b o, s.heap.get? b = some o → (s.heap.push { cls := .type "list", data := .seq #[] }).get? b = some o := fun b o e => Heap.get?_push_of_some _ e
  obtain ⟨a, b, hTO⟩ := hTO
  refine ⟨⟨_, eS, rfl⟩, PySem.F.args_list_init_2 _ _, zl_init (m0 := m0) (h0 := h0) Z D1 D2 hS hm hn ⟨.inl ⟨rfl, up _ _ hz, a, b, up _ _ hTO⟩, up _ _ hTI, ⟨_, up _ _ hTO⟩, D1.frame _ _ _ st1 fun b _ o e => up b o e, D2.frame _ _ _ st2 fun b _ o e => up b o e, rfl, ⟨_, eS⟩, fun j T e => (by simp at e), fun T hT => (by cases hT), List.nodup_nil, fun b o hb e => up b o (old b o hb e)⟩ fun h' tk Ts a => ⟨rfl, hQ h' tk Ts a⟩⟩
end Mi
end
end
section
set_option Elab.async false
set_option linter.all false
set_option maxRecDepth 100000
set_option maxHeartbeats 2000000
/-! N7: list(zip(a, b)), its rule. -/
namespace Mi
open PySem PyProof.Rows
open L2 (V HO Hp upd upd_same upd_ne SqL SqT Rd Cx Inv PE PT PA PS PSs PG PGs PI TE TT TA TS TG TGs TI It VK XK Ends RelV Vals ne_of_none OpR R2 EP CallR UnR IxR SlR TruR Gl Vis Loc HOk)
theorem lay_zip {Pr : Program} {w : World} {K : Fg} {O : Addr → Prop} {ρ : Nat → Addr} {st : Sr} {h' : Heap} : ∀ (Ts : List Addr) (vs us : List V) (ds es : List P) (its jts : List Value) (H : Hp), Ts.length = min vs.length us.length → (∀ T ∈ Ts, H T = none) → Ts.Nodup → Vals vs its → Vals us jts →
    (∀ (j : Nat) (T : Addr), Ts[j]? = some T → ∃ (x y : Value), its[j]? = some x ∧ jts[j]? = some y ∧ IsTupOf2 h' T x y) → ReqP K (Mt O ρ st) H ds vs → ReqP K (Mt O ρ st) H es us → RelS K O ρ H st → HOk Pr w H h' →
    ∃ H', HOk Pr w H' h' ∧ Stp ρ st H ρ st H' ∧ RelS K O ρ H' st ∧ ReqP K (Mt O ρ st) H' (zpP ds es) (Ts.map V.ref) ∧ (∀ b, b ∉ Ts → H' b = H b)
  | [], vs, us, ds, es, its, jts, H, hl, hN, nd, r1, r2, ht, q1, q2, S, ok => by
    refine ⟨H, ok, .rfl, S, ?_, fun _ _ => rfl⟩
    cases q1 with
    | nil => exact .nil
    | cons _ _ => cases q2 with
      | nil => exact .nil
      | cons _ _ => simp at hl
  | T :: Ts, vs, us, ds, es, its, jts, H, hl, hN, nd, r1, r2, ht, q1, q2, S, ok => by
    cases q1 with
    | nil => simp at hl
    | @cons d1 ds v1 vs a1 q1 => cases q2 with
      | nil => simp at hl
      | @cons d2 es u1 us a2 q2 =>
        cases r1 with
        | cons e1 r1 => cases r2 with
          | cons e2 r2 =>
            obtain ⟨nd1, nd2⟩ := List.nodup_cons.mp nd
            obtain ⟨x, y, g1, g2, g3⟩ := ht 0 T rfl
            simp at g1 g2
            subst g1 g2
            have hT := hN T List.mem_cons_self
            have ok1 : HOk Pr w (upd H T (.tup [v1, u1])) h' := L2.HOk.laidN ok (fun _ _ q => q) hT ⟨by simp [sizeLine], [_, _], .cons e1 (.cons e2 .nil), ⟨_, g3, rfl, _, rfl⟩⟩
            have S1 := S.new (o := .tup [v1, u1]) hT
            have s1 := Stp.new (o := .tup [v1, u1]) S hT
            obtain ⟨H', c1, c2, c3, c4, c5⟩ := lay_zip Ts vs us ds es _ _ (upd H T (.tup [v1, u1])) (by simpa using hl) (fun T' hT' => by
              have ne : T' ≠ T := fun q => nd1 (by rw [← q]; exact hT')
              rw [upd_ne ne]
              exact hN T' (List.mem_cons_of_mem _ hT')) nd2 r1 r2 (fun j T' e => ht (j + 1) T' e) (q1.stp S s1) (q2.stp S s1) S1 ok1
            refine ⟨H', c1, Stp.trans S S1 s1 c2, c3, .cons ?_ c4, fun b hb => ?_⟩
            · have := rep_newT (ρ := ρ) (st := st) S hT (.cons a1 (.cons a2 .nil))
              exact Rep.stp S1 c2 this
            · rw [c5 b fun q => hb (List.mem_cons_of_mem _ q), upd_ne (fun q => hb (by rw [q]; exact List.mem_cons_self) : b ≠ T)]
end Mi
end
section
set_option Elab.async false
set_option linter.all false
set_option maxRecDepth 100000
set_option maxHeartbeats 2000000
/-! N8: list(zip(a, b)), its rule. -/
namespace Mi
open PySem PyProof.Rows
open L2 (V HO Hp upd upd_same upd_ne SqL SqT Rd Cx Inv PE PT PA PS PSs PG PGs PI TE TT TA TS TG TGs TI It VK XK Ends RelV Vals ne_of_none OpR R2 EP CallR UnR IxR SlR TruR Gl Vis Loc HOk)
theorem zsep (m a b : Nat) (ha : a < m) (hb : b < m) : ZipSep2 (m + 4) (m + 2) (m + 3) m (m + 1) [m, a] [m + 1, b] :=
  ⟨Nat.ne_of_lt (by omega), Nat.ne_of_lt (by omega), Nat.ne_of_lt (by omega), Nat.ne_of_gt (by omega), List.mem_cons_self, fun q => by
    rcases List.mem_cons.mp q with q | q
    · exact Nat.ne_of_gt (by omega) q
    · exact Nat.ne_of_gt (by omega) (List.mem_singleton.mp q), fun q => by
    rcases List.mem_cons.mp q with q | q
    · exact Nat.ne_of_gt (by omega) q
    · exact Nat.ne_of_gt (by omega) (List.mem_singleton.mp q), Nat.ne_of_gt (by omega), List.mem_cons_self, fun q => by
    rcases List.mem_cons.mp q with q | q
    · exact Nat.ne_of_gt (by omega) q
    · exact Nat.ne_of_gt (by omega) (List.mem_singleton.mp q), fun q => by
    rcases List.mem_cons.mp q with q | q
    · exact Nat.ne_of_gt (by omega) q
    · exact Nat.ne_of_gt (by omega) (List.mem_singleton.mp q), fun q => by
    rcases List.mem_cons.mp q with q | q
    · exact Nat.ne_of_lt (by omega) q
    · exact Nat.ne_of_gt (by omega) (List.mem_singleton.mp q), fun q => by
    rcases List.mem_cons.mp q with q | q
    · exact Nat.ne_of_gt (by omega) q
    · exact Nat.ne_of_gt (by omega) (List.mem_singleton.mp q)⟩
theorem zfresh (m a b : Nat) (ha : a < m) (hb : b < m) : (m + 5) ∉ (m + 4) :: (m + 2) :: (m + 3) :: ([m, a] ++ [m + 1, b]) := by
  simp
  omega
theorem vals_len : ∀ {vs : List V} {us : List Value}, Vals vs us → us.length = vs.length := fun h => h.length.symm
theorem req_len {K : Fg} {m : Addr → Prop} {H : Hp} : ∀ {ds : List P} {vs : List V}, ReqP K m H ds vs → ds.length = vs.length
  | _, _, .nil => rfl
  | _, _, .cons _ r => by simp [req_len r]
theorem xLzp {T0 T1 : T} {p0 p1 p2 : Pos} (hc : C.calm = true) (hg : Gl C "list") (hm : C.mg "list" = none) (hg2 : Gl C "zip") (hm2 : C.mg "zip" = none) (hs : ns T1 = true) (ha : PA C (toE T0 :: toEs T1) (TrA C.K W fs)) :
    PE C (.Call (.Name "list" p0) [.Call (.Name "zip" p1) (toE T0 :: toEs T1) [] p2] [] pos) (TrE C.K W fun e s => opL lzpP (fs e s)) := by
  refine ⟨fun pins s σ H Q I ⟨O, ρ, e, st, R, h⟩ => ?_⟩
  refine PyProof.Rows.Call_ (L2.ld_blt I hg hm PyProof.Rows.boot_list (PyProof.Rows.callWith_type1 (PyProof.Rows.args_cons ?_ rfl) rfl rfl))
  refine PyProof.Rows.Call_ (L2.ld_blt I hg2 hm2 (show bootBuiltins "zip" = some (.type "zip") by decide +kernel) ?_)
  refine PyProof.Rows.callWith_type1 (L2.thn (ha.run p2 pins s σ H (fun vs H1 => ∃ (ρ1 : Nat → Addr) (st1 : Sr) (as : List P) (c : P), RelS C.K O ρ1 H1 st1 ∧ lzpP as = some c ∧ RdPs C.K (Mt O ρ1 st1) H1 as vs ∧ ∀ H2 v, Stp ρ1 st1 H1 ρ1 st1 H2 → RelS C.K O ρ1 H2 st1 → RepP C.K (Mt O ρ1 st1) H2 c v → Q v H2) I ⟨O, ρ, e, st, R, End.bd R.S h fun xs st1 ρ1 H1 vs _ s1 S1 r1 h1 => ?_⟩) fun us s1 ⟨vs, H1, I1, r1, ρ1, st1, as, c, S1, e1, rd, q⟩ => ?_) (star_cons _ _ _) (by rw [back_any]; exact ns_star _ hs _)
  · split at h1
    · rename_i as e1
      split at h1
      · rename_i c e3
        exact ⟨ρ1, st1, as, c, S1, e3, ddL_rd S1 r1 e1, fun H2 v s2 S2 r2 => h1 ρ1 H2 v s2 S2 r2⟩
      · exact h1.elim
    · exact h1.elim
  · unfold lzpP at e1
    split at e1
    · rename_i xs ys
      split at e1
      · rename_i hn
        cases e1
        obtain ⟨y, z, rfl, hy, hz⟩ := RdPs.two (C := C) rd
        obtain ⟨a, vs1, rfl, l1, k1⟩ := hy.tup
        obtain ⟨b, vs2, rfl, l2, k2⟩ := hz.tup
        cases r1 with
        | cons r rr =>
          cases rr with
          | cons r' rr =>
            cases rr
            cases r
            cases r'
            obtain ⟨its, v1, t1, z1⟩ := I1.tuple l1
            obtain ⟨jts, v2, t2, z2⟩ := I1.tuple l2
            have la : a < s1.heap.objs.size := by obtain ⟨o, e, _⟩ := t1; exact Heap.lt_size e
            have lb : b < s1.heap.objs.size := by obtain ⟨o, e, _⟩ := t2; exact Heap.lt_size e
            have n1 := vals_len v1
            have n2 := vals_len v2
            have m1 := req_len k1
            refine zip_begins2 (begins_tuple a its.toArray) (begins_tuple b jts.toArray) t1 t2 fun h1 y1 y2 y3 y4 y5 y6 y7 => PyProof.Rows.args_nil ?_
            have hh3 : C.A.in1.in1.in1.handled = none := by simp [I1.ok.hd hc]
            have fr := zfresh s1.heap.objs.size a b la lb
            rw [← y6] at fr
            refine call_list_z (s := { s1 with heap := h1 }) (m0 := s1.heap.objs.size) (h0 := s1.heap) (zsep s1.heap.objs.size a b la lb) (Draws.tuple hh3 s1.heap.objs.size a (Nat.ne_of_lt la) its.toArray) (Draws.tuple hh3 (s1.heap.objs.size + 1) b (Nat.ne_of_lt (Nat.lt_succ_of_lt lb)) jts.toArray) fr
              ⟨Nat.le_add_right _ _, Nat.le_add_right _ _, Nat.le_add_right _ _, Nat.le_refl _, Nat.le_add_right _ _, by show _ ≤ h1.objs.size; rw [y6]; exact Nat.le_add_right _ _⟩ ?_ y1 y2 ⟨_, _, y3⟩ ⟨⟨_, y4, rfl, rfl⟩, ?_⟩ ⟨⟨_, y5, rfl, rfl⟩, ?_⟩ (fun b o _ e => y7 b o e) fun h2 tk Ts ⟨c1, c2, c3, c4, c5, c6⟩ => ?_
            · have e1 : its.toArray.size = xs.length := by rw [List.size_toArray, n1, m1]
              rw [e1]
              omega
            · obtain ⟨o, e, r⟩ := t1
              exact ⟨o, y7 _ _ e, r⟩
            · obtain ⟨o, e, r⟩ := t2
              exact ⟨o, y7 _ _ e, r⟩
            · have fr1 : ∀ T, s1.heap.objs.size ≤ T → H1 T = none := fun T hT => I1.hok.fresh hT
              have hok0 : HOk C.prog C.w H1 h2 := I1.hok.kept fun b u e => c6 b u (Heap.lt_size e) e
              obtain ⟨H', d1, d2, d3, d4, d5⟩ := lay_zip (Pr := C.prog) (w := C.w) (K := C.K) (O := O) (ρ := ρ1) (st := st1) Ts vs1 vs2 xs ys its jts H1 (by rw [c1, List.size_toArray, List.size_toArray, n1, n2]) (fun T hT => fr1 T (c4 T hT).1) c5 v1 v2 (fun j T e => by
                obtain ⟨x, y, g1, g2, g3⟩ := c3 j T e
                exact ⟨x, y, by simpa using g1, by simpa using g2, g3⟩) k1 k2 S1 hok0
              have lS : s1.heap.objs.size ≤ h1.objs.size := by rw [y6]; exact Nat.le_add_right _ _
              have nS : h1.objs.size ∉ Ts := fun q => (c4 _ q).2 rfl
              have hS : H' h1.objs.size = none := by rw [d5 _ nS]; exact fr1 _ lS
              have tl : Ts.length ≤ sizeLine := by
                have : sizeLine = 16777216 := rfl
                have e1 : its.toArray.size = xs.length := by rw [List.size_toArray, n1, m1]
                rw [c1, e1]
                omega
              have vr : ∀ l : List Addr, Vals (l.map V.ref) (l.map Value.ref) := fun l => by
                induction l with
                | nil => exact .nil
                | cons x l ih => exact .cons rfl ih
              obtain ⟨cc, eL⟩ := c2
              have hok2 : HOk C.prog C.w (upd H' h1.objs.size (.lst (Ts.map V.ref))) h2 := L2.HOk.laidN d1 (fun _ _ q => q) hS ⟨by rw [List.length_map]; exact tl, _, cc, vr Ts, eL⟩
              have un : L2.Un (L2.frs C.stack) [] H1 (upd H' h1.objs.size (.lst (Ts.map V.ref))) s1.heap h2 := by
                have kk : ∀ b u, s1.heap.get? b = some u → h2.get? b = some u := fun b u e => c6 b u (Heap.lt_size e) e
                have bT : ∀ b, b < s1.heap.objs.size → b ∉ Ts ∧ b ≠ h1.objs.size := fun b hb => ⟨fun q => Nat.not_lt.mpr (c4 b q).1 hb, fun q => by rw [q] at hb; exact Nat.not_lt.mpr lS hb⟩
                have same : ∀ b, b < s1.heap.objs.size → upd H' h1.objs.size (.lst (Ts.map V.ref)) b = H1 b := fun b hb => by rw [upd_ne (bT b hb).2, d5 b (bT b hb).1]
                have some_lt : ∀ b o, H1 b = some o → upd H' h1.objs.size (.lst (Ts.map V.ref)) b = H1 b := fun b o e => by
                  refine same b ?_
                  refine Nat.lt_of_not_le fun q => ?_
                  rw [fr1 b q] at e
                  cases e
                exact ⟨fun b o e _ _ _ => kk b o e, fun b o e _ _ _ => ⟨o.slots, kk b o e⟩, fun b o e n _ => by rw [same b (Heap.lt_size e)]; exact n, fun b o e _ => ⟨o, kk b o e⟩, fun b xs e => by rw [some_lt b _ e]; exact e, fun b o u e => by rw [some_lt b _ e]; exact e, fun b ps e => ⟨#[], by rw [some_lt b _ e, e]; simp⟩⟩
              have J := I1.call (g' := s1.gens) (t' := tk) (d' := s1.drawn) (ch := []) un hok2 I1.bare (fun _ z => nomatch z)
              exact ⟨.ref h1.objs.size, _, J, rfl, q _ _ (Stp.trans S1 d3 d2 (Stp.new d3 hS)) (d3.new hS) (rep_newL d3 hS d4)⟩
      · cases e1
    · cases e1
end Mi
end
section
set_option Elab.async false
set_option linter.all false
set_option maxRecDepth 100000
set_option maxHeartbeats 2000000
/-! N9: pop(i), extend. -/
namespace Mi
open PySem PyProof.Rows
open L2 (V HO Hp upd upd_same upd_ne SqL SqT Rd Cx Inv PE PT PA PS PSs PG PGs PI TE TT TA TS TG TGs TI It VK XK Ends RelV Vals ne_of_none OpR R2 EP CallR UnR IxR SlR TruR Gl Vis Loc HOk)
section
variable {C : Cx} {W : Nat → Option Addr → Hp → Prop} {fa : En → Sr → R Vl} {fs : En → Sr → R (List Vl)} {pos : Pos}
theorem ReqP.erase {K : Fg} {m : Addr → Prop} {H : Hp} {ds : List P} {vs : List V} (r : ReqP K m H ds vs) (k : Nat) : ReqP K m H (ds.eraseIdx k) (vs.eraseIdx k) := by
  rw [List.eraseIdx_eq_take_drop_succ, List.eraseIdx_eq_take_drop_succ]
  exact (r.take k).app (r.drop (k + 1))
theorem popV_ok {O : Addr → Prop} {ρ : Nat → Addr} {st st' : Sr} {H : Hp} {o : Vl} {ys : List Vl} {x : V} {us : List V} {y : P} (S : RelS C.K O ρ H st) (h : popV o ys st = some (y, st')) (ro : Rep C.K O ρ st H o x) (rs : Reps C.K O ρ st H ys us) :
    ∃ (l : Addr) (xs : List V) (i : Int) (k : Nat) (w : V), x = .ref l ∧ us = [.int i] ∧ H l = some (.lst xs) ∧ -(2 ^ 63) ≤ i ∧ i < 2 ^ 63 ∧ seqIndex? i xs.length = some k ∧ xs[k]? = some w ∧ Stp ρ st H ρ st' (upd H l (.lst (xs.eraseIdx k))) ∧ RelS C.K O ρ (upd H l (.lst (xs.eraseIdx k))) st' ∧ RepP C.K (Mt O ρ st) H y w := by
  unfold popV at h
  split at h
  · rename_i n i e1
    obtain ⟨hn, rfl⟩ := ro
    split at h
    · rename_i xs q
      split at h
      · rename_i k e2
        split at h
        · rename_i hl
          obtain ⟨z, hz, e3⟩ := Option.map_eq_some_iff.mp h
          cases e3
          obtain ⟨u, rfl, hu⟩ := RdPs.one (C := C) (ddL_rd S rs e1)
          obtain ⟨w, f1, vs, rfl, f2⟩ := S.ob n _ q
          obtain ⟨v, g1, g2⟩ := f2.get hz
          obtain ⟨b1, b2⟩ := plain_upd S q (f2.erase k)
          have e4 := f2.len
          rw [e4] at e2
          obtain ⟨s1, s2, s3, s4⟩ := L2.ixN_seq e2
          have hl' : (vs.length : Int) ≤ 1000000 := by rw [← e4]; unfold lim at hl; omega
          exact ⟨_, vs, i, k, v, rfl, by rw [hu.int], f1, by omega, by omega, s1, g1, b1, b2, g2⟩
        · cases h
      · cases h
    · cases h
  · cases h
theorem mExt : L2.MtR C "list.extend" (fun x vs H Q => ∃ l b xs zs, x = V.ref l ∧ vs = [V.ref b] ∧ H l = some (.lst xs) ∧ LsX C.K H b zs ∧ xs.length + zs.length ≤ sizeLine ∧ Q .non (upd H l (.lst (xs ++ zs)))) := by
  intro pins s σ H x vs v us Q I rx rv h
  obtain ⟨l, b, xs, zs, rfl, rfl, hH, hB, hz, q⟩ := h
  cases rx
  obtain ⟨u, rfl, ru⟩ := rv.one
  cases ru
  obtain ⟨z, its, n, r, hl, e⟩ := I.lstM hH
  obtain ⟨its2, n2, r2, e2, z2⟩ := hB.get I
  have hl2 : zs.length = its2.length := r2.length
  have hsz : its.toArray.size + its2.toArray.size ≤ sizeLine := by rw [List.size_toArray, List.size_toArray]; omega
  have hlong : ¬ (!its.toArray.isEmpty && Builtin.List.listTooLong (its.toArray.size + its2.toArray.size)) = true := by
    rw [L2.notLongL hsz, Bool.and_false]
    exact Bool.false_ne_true
  refine call_meets F.slot_list_extend ⟨_, e, rfl⟩ F.entry_list_extend (F.args_list_extend_2 _ _)
    (AutoSeq1.list_extend_list_list_0 l its.toArray n b its2.toArray n2 hlong (by rw [List.size_toArray]; omega) (by omega)) ⟨e, e2, ?_⟩
  refine ⟨.non, _, I.lset (its' := its ++ its2) hH e (by simp) (r.append r2) ?_, rfl, q⟩
  rw [List.length_append]
  omega
theorem extV_ok {O : Addr → Prop} {ρ : Nat → Addr} {st st' : Sr} {H : Hp} {o : Vl} {ys : List Vl} {x : V} {us : List V} (S : RelS C.K O ρ H st) (h : extV o ys st = some st') (ro : Rep C.K O ρ st H o x) (rs : Reps C.K O ρ st H ys us) :
    ∃ (l b : Addr) (xs zs : List V), x = .ref l ∧ us = [.ref b] ∧ H l = some (.lst xs) ∧ LsX C.K H b zs ∧ xs.length + zs.length ≤ sizeLine ∧ Stp ρ st H ρ st' (upd H l (.lst (xs ++ zs))) ∧ RelS C.K O ρ (upd H l (.lst (xs ++ zs))) st' := by
  unfold extV at h
  split at h
  · rename_i n es e1
    obtain ⟨hn, rfl⟩ := ro
    split at h
    · rename_i xs q
      split at h
      · rename_i hl
        cases h
        obtain ⟨u, rfl, hu⟩ := RdPs.one (C := C) (ddL_rd S rs e1)
        obtain ⟨b, zs, rfl, h1, r1⟩ := hu.list
        obtain ⟨w, f1, vs, rfl, f2⟩ := S.ob n _ q
        obtain ⟨b1, b2⟩ := plain_upd S q (f2.app r1)
        have e4 := f2.len
        have e5 := r1.len
        exact ⟨_, b, vs, zs, rfl, rfl, f1, h1, lim_line (by rw [← e4, ← e5]; exact hl), b1, b2⟩
      · cases h
    · cases h
  · cases h
theorem xPop {T0 T1 : T} {p0 : Pos} (hb : ∀ (nm : Str), attributeBase (toE T0) nm C.env (eval (toE T0) C.env) = eval (toE T0) C.env) (hl : (p0.endLine == pos.line) = true) (ho : PE C (toE T0) (TrE C.K W fa)) (hx : PA C [toE T1] (TrA C.K W fs)) :
    PE C (.Call (.Attribute (toE T0) (meN .pop) p0) [toE T1] [] pos) (TrE C.K W fun e s => (fa e s).bd fun o s => if isL o s = true then (fs e s).bd fun vs s => meV .pop o vs s else .no) :=
  imE (L2.pe_bm F.plainAttrs_list PySem.F.slot_list_pop PySem.F.type_list_pop L2.mt_popAt ho hx (hb _) (by rw [star_cons]; rfl) hl (star_cons _ _ _)) fun σ H Q ⟨O, ρ, e, st, R, h⟩ =>
    ⟨O, ρ, e, st, R, End.bd R.S h fun x st1 ρ1 H1 v _ s1 S1 r1 h1 => by
      split at h1
      · rename_i hx
        cases x with
        | p d => cases hx
        | r n =>
          refine ⟨tyR S1 r1 hx, O, ρ1, e, st1, R.go s1 S1, End.bd S1 h1 fun ys st2 ρ2 H2 us _ s2 S2 r2 h2 => ?_⟩
          simp only [meV] at h2
          split at h2
          · rename_i y st' q
            obtain ⟨l, xs, i, k, w, e1, e2, e3, e4, e5, e6, e7, t1, t2, t3⟩ := popV_ok S2 q (Rep.stp S1 s2 r1) r2
            exact ⟨l, xs, i, k, w, e1, e2, e3, e4, e5, e6, e7, h2 ρ2 _ _ t1 t2 (Rep.stp S2 t1 t3)⟩
          · exact h2.elim
      · exact h1.elim⟩
theorem xExt {T0 T1 : T} {p0 : Pos} (hb : ∀ (nm : Str), attributeBase (toE T0) nm C.env (eval (toE T0) C.env) = eval (toE T0) C.env) (hl : (p0.endLine == pos.line) = true) (ho : PE C (toE T0) (TrE C.K W fa)) (hx : PA C [toE T1] (TrA C.K W fs)) :
    PE C (.Call (.Attribute (toE T0) (meN .ext) p0) [toE T1] [] pos) (TrE C.K W fun e s => (fa e s).bd fun o s => if isL o s = true then (fs e s).bd fun vs s => meV .ext o vs s else .no) :=
  imE (L2.pe_bm F.plainAttrs_list PySem.F.slot_list_extend PySem.F.type_list_extend mExt ho hx (hb _) (by rw [star_cons]; rfl) hl (star_cons _ _ _)) fun σ H Q ⟨O, ρ, e, st, R, h⟩ =>
    ⟨O, ρ, e, st, R, End.bd R.S h fun x st1 ρ1 H1 v _ s1 S1 r1 h1 => by
      split at h1
      · rename_i hx
        cases x with
        | p d => cases hx
        | r n =>
          refine ⟨tyR S1 r1 hx, O, ρ1, e, st1, R.go s1 S1, End.bd S1 h1 fun ys st2 ρ2 H2 us _ s2 S2 r2 h2 => ?_⟩
          simp only [meV] at h2
          split at h2
          · rename_i st' q
            obtain ⟨l, b, xs, zs, e1, e2, e3, e4, e5, t1, t2⟩ := extV_ok S2 q (Rep.stp S1 s2 r1) r2
            exact ⟨l, b, xs, zs, e1, e2, e3, e4, e5, h2 ρ2 _ _ t1 t2 .non⟩
          · exact h2.elim
      · exact h1.elim⟩
end
end Mi
end
section
set_option Elab.async false
set_option linter.all false
set_option maxRecDepth 100000
set_option maxHeartbeats 3200000
/-! N10: zip's next, whatever became of the tuple it handed out first. -/
section
open PySem PyProof.Rows
namespace Mi
variable {P : Program} {w : World} {A : Around} {E : Value → Shared → Prop} {s : Shared} {z TI TO i1 i2 : Addr} {fp1 fp2 : List Addr} {n1 n2 : Nat} {P1 P2 : Nat → Value → Prop} {St1 St2 : Nat → Heap → Prop} {a1 a2 : Value} {i : Nat}
abbrev Zs (h : Heap) (z TI TO : Addr) (o : Value) (b : Bool) : Prop := h.get? z = some ⟨.type "zip", none, .fields #[o, .bool b, .bool false, .ref TI, .ref TO], #[]⟩
theorem zf_free {T : Addr} {b : Bool} {Q : Bool → Shared → Prop} (hz : Zs s.heap z TI TO (rawInt T) b) (hT : s.heap.get? T = none) (hQ : Q true s) : wpAny (model P w) A (Builtin.SmallTypes.ownedTupleIsFree (.ref z)) Q E s := by
  unfold Builtin.SmallTypes.ownedTupleIsFree
  refine wpAny_bind (wpAny_field hz rfl (x := rawInt T) rfl ?_)
  show wpAny _ _ (loadIfAlive (Int.toNat (T : Nat)) >>= _) _ _ _
  rw [Int.toNat_natCast]
  have h' : ∀ {R : Option Obj → Shared → Prop}, R none s → wpAny (model P w) A (loadIfAlive T) R E s := fun {R} r => by
    have r' : R (s.heap.get? T) s := by rw [hT]; exact r
    exact fun _ _ _ => r'
  refine wpAny_bind (h' ?_)
  simp only [Option.isNone_none, if_true]
  exact wpAny_pure hQ
theorem zf_next {T : Addr} {b : Bool} {Q : Value → Shared → Prop} (S : ZipSep2 z TI TO i1 i2 fp1 fp2) (D1 : Draws P w A i1 fp1 n1 P1 St1) (D2 : Draws P w A i2 fp2 n2 P2 St2)
    (hz : Zs s.heap z TI TO (rawInt T) b) (hT : s.heap.get? T = none) (hTI : IsTupOf2 s.heap TI (.ref i1) (.ref i2)) (hTO : IsTupOf2 s.heap TO a1 a2) (st1 : St1 i s.heap) (st2 : St2 i s.heap) (hlt1 : i < n1) (hlt2 : i < n2)
    (hQ : ∀ x1 x2 h' tk, P1 i x1 → P2 i x2 → Zs h' z TI TO (rawInt s.heap.objs.size) false → IsTupOf2 h' TO x1 x2 → St1 (i + 1) h' → St2 (i + 1) h' → IsTupOf2 h' s.heap.objs.size x1 x2 → h'.objs.size = s.heap.objs.size + 1 →
      (∀ c o, c ≠ z → c ≠ TO → c ≠ i1 → c ≠ i2 → s.heap.get? c = some o → h'.get? c = some o) → Q (.ref s.heap.objs.size) { s with heap := h', toks := tk }) :
    wpAny (model P w) A (Builtin.«zip.__next__» ⟨[.ref z], []⟩) (fun fin s' => ∃ v, fin = .done (.ret v) ∧ Q v s') E s := by
  obtain ⟨hp, g, d, tk0, os⟩ := s
  show wpAny _ _ (field (.ref z) 2 >>= _) _ _ _
  refine wpAny_bind (wpAny_field hz rfl (x := .bool false) rfl ?_)
  show wpAny _ _ (field (.ref z) 3 >>= _) _ _ _
  refine wpAny_bind (wpAny_field hz rfl (x := .ref TI) rfl ?_)
  refine wpAny_bind (wpAny_seqItems hTI rfl ?_)
  show wpAny _ _ (Builtin.SmallTypes.ownedTupleIsFree (.ref z) >>= _) _ _ _
  refine wpAny_bind (zf_free hz hT ?_)
  simp only [if_true]
  refine wpAny_bind (wpAny_rule ?_)
  refine wpAny_bind (wpAny_field hz rfl (x := .ref TO) rfl ?_)
  refine wpAny_bind (wpAny_setField_rec hz (by simp) fun g0 hz0 hs0 => ?_)
  replace hz0 : Zs g0 z TI TO .ellipsis b := hz0
  replace hs0 : Heap.SameBut z hp g0 := hs0
  refine wpAny_bind ?_
  simp only [List.zipIdx_cons, List.zipIdx_nil, List.forIn_cons, List.forIn_nil]
  refine wpAny_bind (wpAny_bind (wpAny_onRaise ?_))
  show wpAny _ _ (Builtin.SmallTypes.nextOf (.ref i1) >>= _) _ _ ⟨g0, g, d, tk0, os⟩
  refine wpAny_bind (D1.item i _ _ _ hlt1 (D1.over st1 hs0 S.zf1) fun x1 p1 tk1 hx1 sn1 hp1 => wpAny_pure ?_)
  replace hp1 : Heap.SameBut i1 g0 p1 := hp1
  have u1 : IsTupOf2 p1 TO a1 a2 := hp1.extBut _ _ S.Ti1 (hs0.extBut _ _ S.TOz hTO)
  refine wpAny_bind (wpAny_seqItems (s := ⟨p1, g, d, tk1, os⟩) u1 rfl ?_)
  refine wpAny_bind (updateSeq_IsTupOf2 (s := ⟨p1, g, d, tk1, os⟩) u1 fun g1 v1 hs1 => ?_)
  replace v1 : IsTupOf2 g1 TO x1 a2 := v1
  replace hs1 : Heap.SameBut TO p1 g1 := hs1
  refine wpAny_bind (wpAny_letGo (wpAny_pure ?_))
  refine wpAny_bind (wpAny_bind (wpAny_onRaise ?_))
  show wpAny _ _ (Builtin.SmallTypes.nextOf (.ref i2) >>= _) _ _ ⟨g1, g, d, tk1, os⟩
  refine wpAny_bind (D2.item i _ _ _ hlt2 (D2.over (D2.over (D2.over st2 hs0 S.zf2) hp1 S.sep1_2) hs1 S.Tf2) fun x2 p2 tk2 hx2 sn2 hp2 => wpAny_pure ?_)
  replace hp2 : Heap.SameBut i2 g1 p2 := hp2
  have u2 : IsTupOf2 p2 TO x1 a2 := hp2.extBut _ _ S.Ti2 v1
  refine wpAny_bind (wpAny_seqItems (s := ⟨p2, g, d, tk2, os⟩) u2 rfl ?_)
  refine wpAny_bind (updateSeq_IsTupOf2 (s := ⟨p2, g, d, tk2, os⟩) u2 fun g2 v2 hs2 => ?_)
  replace v2 : IsTupOf2 g2 TO x1 x2 := v2
  replace hs2 : Heap.SameBut TO p2 g2 := hs2
  refine wpAny_bind (wpAny_letGo (wpAny_pure (wpAny_pure ?_)))
  refine wpAny_bind (wpAny_seqItems (s := ⟨g2, g, d, tk2, os⟩) v2 rfl ?_)
  refine wpAny_bind (wpAny_newTuple ?_)
  have hsz : g2.objs.size = hp.objs.size := by rw [hs2.1, hp2.1, hs1.1, hp1.1, hs0.1]
  have hzz : Zs g2 z TI TO .ellipsis b := hs2.extBut _ _ S.TOz.symm (hp2.extBut _ _ S.zi2 (hs1.extBut _ _ S.TOz.symm (hp1.extBut _ _ S.zi1 hz0)))
  have kk : ∀ c o, c ≠ z → c ≠ TO → c ≠ i1 → c ≠ i2 → hp.get? c = some o → g2.get? c = some o := fun c o cz cT c1 c2 e =>
    hs2.extBut _ _ cT (hp2.extBut _ _ c2 (hs1.extBut _ _ cT (hp1.extBut _ _ c1 (hs0.extBut _ _ cz e))))
  have j1 : St1 (i + 1) g2 := D1.over (D1.over (D1.over sn1 hs1 S.Tf1) hp2 S.sep2_1) hs2 S.Tf1
  have j2 : St2 (i + 1) g2 := D2.over sn2 hs2 S.Tf2
  have zlt : z < g2.objs.size := Heap.lt_size hzz
  show wpAny _ _ (Builtin.SmallTypes.ownedTupleHandOut (.ref z) (.ref g2.objs.size) >>= _) _ _ ⟨g2.push { cls := .type "tuple", data := .seq #[x1, x2] }, g, d, tk2, os⟩
  refine wpAny_bind ?_
  unfold Builtin.SmallTypes.ownedTupleHandOut
  have hz6 : Zs (g2.push { cls := .type "tuple", data := .seq #[x1, x2] }) z TI TO .ellipsis b := Heap.get?_push_of_some _ hzz
  refine wpAny_bind (wpAny_setField_rec hz6 (by simp) fun h7 hz7 hs7 => ?_)
  replace hz7 : Zs h7 z TI TO (rawInt g2.objs.size) b := hz7
  refine wpAny_setField_rec hz7 (by simp) fun h8 hz8 hs8 => ?_
  replace hz8 : Zs h8 z TI TO (rawInt g2.objs.size) false := hz8
  replace hs7 : Heap.SameBut z (g2.push { cls := .type "tuple", data := .seq #[x1, x2] }) h7 := hs7
  replace hs8 : Heap.SameBut z h7 h8 := hs8
  have up : ∀ c o, c ≠ z → g2.get? c = some o → h8.get? c = some o := fun c o c1 e => hs8.extBut _ _ c1 (hs7.extBut _ _ c1 (Heap.get?_push_of_some _ e))
  have t8 : IsTupOf2 h8 g2.objs.size x1 x2 := hs8.extBut _ _ (Nat.ne_of_gt zlt) (hs7.extBut _ _ (Nat.ne_of_gt zlt) (Heap.get?_push_size _ rfl))
  have s8 : h8.objs.size = g2.objs.size + 1 := by rw [hs8.1, hs7.1, Heap.size_push]
  rw [hsz] at hz8 t8 s8
  refine wpAny_pure ⟨_, rfl, ?_⟩
  show Q (.ref g2.objs.size) ⟨h8, g, d, tk2, os⟩
  rw [hsz]
  exact hQ x1 x2 h8 tk2 hx1 hx2 hz8 (up _ _ S.TOz v2) (D1.frame _ _ _ j1 fun b hb o e => up b o (fun q => S.zf1 (q ▸ hb)) e) (D2.frame _ _ _ j2 fun b hb o e => up b o (fun q => S.zf2 (q ▸ hb)) e) t8 s8 fun c o cz cT c1 c2 e => up c o cz (kk c o cz cT c1 c2 e)
theorem zf_end {T : Addr} {b : Bool} {Q : Fin → Shared → Prop} (S : ZipSep2 z TI TO i1 i2 fp1 fp2) (D1 : Draws P w A i1 fp1 n1 P1 St1) (D2 : Draws P w A i2 fp2 n2 P2 St2)
    (hz : Zs s.heap z TI TO (rawInt T) b) (hT : s.heap.get? T = none) (hTI : IsTupOf2 s.heap TI (.ref i1) (.ref i2)) (hTO : IsTupOf2 s.heap TO a1 a2) (st1 : St1 i s.heap) (st2 : St2 i s.heap) (hle1 : i ≤ n1) (hle2 : i ≤ n2) (hend : i = n1 ∨ i = n2)
    (hE : ∀ h' tk e, (∀ c o, c ≠ z → c ≠ TO → c ≠ i1 → c ≠ i2 → s.heap.get? c = some o → h'.get? c = some o) → (∃ o, h'.get? e = some o ∧ o.cls = .type "StopIteration") → E (.ref e) { s with heap := h', toks := tk }) :
    wpAny (model P w) A (Builtin.«zip.__next__» ⟨[.ref z], []⟩) Q E s := by
  obtain ⟨hp, g, d, tk0, os⟩ := s
  show wpAny _ _ (field (.ref z) 2 >>= _) _ _ _
  refine wpAny_bind (wpAny_field hz rfl (x := .bool false) rfl ?_)
  show wpAny _ _ (field (.ref z) 3 >>= _) _ _ _
  refine wpAny_bind (wpAny_field hz rfl (x := .ref TI) rfl ?_)
  refine wpAny_bind (wpAny_seqItems hTI rfl ?_)
  show wpAny _ _ (Builtin.SmallTypes.ownedTupleIsFree (.ref z) >>= _) _ _ _
  refine wpAny_bind (zf_free hz hT ?_)
  simp only [if_true]
  refine wpAny_bind (wpAny_rule ?_)
  refine wpAny_bind (wpAny_field hz rfl (x := .ref TO) rfl ?_)
  refine wpAny_bind (wpAny_setField_rec hz (by simp) fun g0 hz0 hs0 => ?_)
  replace hz0 : Zs g0 z TI TO .ellipsis b := hz0
  replace hs0 : Heap.SameBut z hp g0 := hs0
  refine wpAny_bind ?_
  simp only [List.zipIdx_cons, List.zipIdx_nil, List.forIn_cons, List.forIn_nil]
  refine wpAny_bind (wpAny_bind (wpAny_onRaise ?_))
  show wpAny _ _ (Builtin.SmallTypes.nextOf (.ref i1) >>= _) _ _ ⟨g0, g, d, tk0, os⟩
  by_cases q1 : i < n1
  · refine wpAny_bind (D1.item i _ _ _ q1 (D1.over st1 hs0 S.zf1) fun x1 p1 tk1 hx1 sn1 hp1 => wpAny_pure ?_)
    replace hp1 : Heap.SameBut i1 g0 p1 := hp1
    have u1 : IsTupOf2 p1 TO a1 a2 := hp1.extBut _ _ S.Ti1 (hs0.extBut _ _ S.TOz hTO)
    refine wpAny_bind (wpAny_seqItems (s := ⟨p1, g, d, tk1, os⟩) u1 rfl ?_)
    refine wpAny_bind (updateSeq_IsTupOf2 (s := ⟨p1, g, d, tk1, os⟩) u1 fun g1 v1 hs1 => ?_)
    replace hs1 : Heap.SameBut TO p1 g1 := hs1
    refine wpAny_bind (wpAny_letGo (wpAny_pure ?_))
    have q2 : i = n2 := by omega
    refine wpAny_bind (wpAny_bind (wpAny_onRaise ?_))
    show wpAny _ _ (Builtin.SmallTypes.nextOf (.ref i2) >>= _) _ _ ⟨g1, g, d, tk1, os⟩
    refine wpAny_bind (D2.done ⟨g1, g, d, tk1, os⟩ _ _ (by rw [← q2]; exact D2.over (D2.over (D2.over st2 hs0 S.zf2) hp1 S.sep1_2) hs1 S.Tf2) fun q e hq he => ?_)
    replace hq : Heap.ExtBut i2 g1 q := hq
    obtain ⟨oe, hoe, hce⟩ := he
    replace hoe : q.get? e = some oe := hoe
    have hzq : Zs q z TI TO .ellipsis b := hq _ _ S.zi2 (hs1.extBut _ _ S.TOz.symm (hp1.extBut _ _ S.zi1 hz0))
    have hez : e ≠ z := fun x => by subst x; rw [hzq] at hoe; cases hoe; simp at hce
    refine wpAny_setField_rec (s := ⟨q, g, d, tk1, os⟩) hzq (by simp) fun q' _ hq' => ?_
    replace hq' : Heap.SameBut z q q' := hq'
    exact hE q' tk1 e (fun c o cz cT c1 c2 x => hq'.extBut _ _ cz (hq _ _ c2 (hs1.extBut _ _ cT (hp1.extBut _ _ c1 (hs0.extBut _ _ cz x))))) ⟨oe, hq'.extBut _ _ hez hoe, hce⟩
  · have q2 : i = n1 := by omega
    refine wpAny_bind (D1.done ⟨g0, g, d, tk0, os⟩ _ _ (by rw [← q2]; exact D1.over st1 hs0 S.zf1) fun q e hq he => ?_)
    replace hq : Heap.ExtBut i1 g0 q := hq
    obtain ⟨oe, hoe, hce⟩ := he
    replace hoe : q.get? e = some oe := hoe
    have hzq : Zs q z TI TO .ellipsis b := hq _ _ S.zi1 hz0
    have hez : e ≠ z := fun x => by subst x; rw [hzq] at hoe; cases hoe; simp at hce
    refine wpAny_setField_rec (s := ⟨q, g, d, tk0, os⟩) hzq (by simp) fun q' _ hq' => ?_
    replace hq' : Heap.SameBut z q q' := hq'
    exact hE q' tk0 e (fun c o cz cT c1 c2 x => hq'.extBut _ _ cz (hq _ _ c1 (hs0.extBut _ _ cz x))) ⟨oe, hq'.extBut _ _ hez hoe, hce⟩
/-- a zip as it stands between two turns -/
def Zok (h : Heap) (z TI TO : Addr) : Prop := (IsZip h z TI TO .none ∨ ∃ T b, IsZk h z TI TO T b) ∧ ∃ a b, IsTupOf2 h TO a b
theorem za_next {Q : Value → Shared → Prop} (S : ZipSep2 z TI TO i1 i2 fp1 fp2) (D1 : Draws P w A i1 fp1 n1 P1 St1) (D2 : Draws P w A i2 fp2 n2 P2 St2)
    (hz : Zok s.heap z TI TO) (hTI : IsTupOf2 s.heap TI (.ref i1) (.ref i2)) (st1 : St1 i s.heap) (st2 : St2 i s.heap) (hlt1 : i < n1) (hlt2 : i < n2)
    (hQ : ∀ x1 x2 h' tk, P1 i x1 → P2 i x2 → Zok h' z TI TO → St1 (i + 1) h' → St2 (i + 1) h' → IsTupOf2 h' s.heap.objs.size x1 x2 → h'.objs.size = s.heap.objs.size + 1 →
      (∀ c o, c ≠ z → c ≠ TO → c ≠ i1 → c ≠ i2 → s.heap.get? c = some o → h'.get? c = some o) → Q (.ref s.heap.objs.size) { s with heap := h', toks := tk }) :
    wpAny (model P w) A (Builtin.«zip.__next__» ⟨[.ref z], []⟩) (fun fin s' => ∃ v, fin = .done (.ret v) ∧ Q v s') E s := by
  obtain ⟨hz, a, b, hTO⟩ := hz
  rcases hz with hz | ⟨T, b0, hz⟩
  · exact zipD2_next_item S D1 D2 hz hTI hTO st1 st2 hlt1 hlt2 fun x1 x2 h' tk y1 y2 b1 b2 b3 b4 b5 b6 b7 => hQ x1 x2 h' tk y1 y2 ⟨.inr ⟨_, _, b1⟩, _, _, b2⟩ b3 b4 b5 b6 b7
  · cases hT : s.heap.get? T with
    | none => exact zf_next S D1 D2 hz hT hTI hTO st1 st2 hlt1 hlt2 fun x1 x2 h' tk y1 y2 b1 b2 b3 b4 b5 b6 b7 => hQ x1 x2 h' tk y1 y2 ⟨.inr ⟨_, _, b1⟩, _, _, b2⟩ b3 b4 b5 b6 b7
    | some o => exact zk_next S D1 D2 hz hT hTI st1 st2 hlt1 hlt2 fun x1 x2 h' tk y1 y2 b1 b3 b4 b5 b6 b7 => hQ x1 x2 h' tk y1 y2 ⟨.inr ⟨_, _, b1⟩, _, _, b7 _ _ S.TOz S.Ti1 S.Ti2 hTO⟩ b3 b4 b5 b6 fun c o c1 _ c3 c4 e => b7 c o c1 c3 c4 e
theorem za_end {Q : Fin → Shared → Prop} (S : ZipSep2 z TI TO i1 i2 fp1 fp2) (D1 : Draws P w A i1 fp1 n1 P1 St1) (D2 : Draws P w A i2 fp2 n2 P2 St2)
    (hz : Zok s.heap z TI TO) (hTI : IsTupOf2 s.heap TI (.ref i1) (.ref i2)) (st1 : St1 i s.heap) (st2 : St2 i s.heap) (hle1 : i ≤ n1) (hle2 : i ≤ n2) (hend : i = n1 ∨ i = n2)
    (hE : ∀ h' tk e, (∀ c o, c ≠ z → c ≠ TO → c ≠ i1 → c ≠ i2 → s.heap.get? c = some o → h'.get? c = some o) → (∃ o, h'.get? e = some o ∧ o.cls = .type "StopIteration") → E (.ref e) { s with heap := h', toks := tk }) :
    wpAny (model P w) A (Builtin.«zip.__next__» ⟨[.ref z], []⟩) Q E s := by
  obtain ⟨hz, a, b, hTO⟩ := hz
  rcases hz with hz | ⟨T, b0, hz⟩
  · exact zipD2_next_end S D1 D2 hz hTI hTO st1 st2 hle1 hle2 hend hE
  · cases hT : s.heap.get? T with
    | none => exact zf_end S D1 D2 hz hT hTI hTO st1 st2 hle1 hle2 hend hE
    | some o => exact zk_end S D1 D2 hz hT hTI st1 st2 hle1 hle2 hend fun h' tk e kp x => hE h' tk e (fun c o c1 _ c3 c4 e => kp c o c1 c3 c4 e) x
end Mi
end
end
section
set_option Elab.async false
set_option linter.all false
set_option maxRecDepth 100000
set_option maxHeartbeats 3200000
/-! N11: enumerate over a zip. -/
section
open PySem PyProof.Rows
open AutoSeq1 (wpAny_loadPart')
namespace Mi
theorem meets_ez (z TI TO : Addr) :
    Meets (Builtin.«enumerate.__new__» ⟨[.type "enumerate", .ref z], []⟩) (fun _ R s => IsZip s.heap z TI TO .none ∧
      R (.ok (.ret (.ref s.heap.objs.size))) { s with heap := s.heap.push { cls := .type "enumerate", data := .fields #[.none, .bool false, .ref z, rawInt 0, .none, .none] } }) :=
  .of_wp fun prog w A R s h => by
    obtain ⟨hp, g, d, tk, os⟩ := s; obtain ⟨hl, h⟩ := h
    have hsub := sub_enumerate
    have q1 : ∀ {A' : Around} {E : Value → Shared → Prop} {Q : Value → Shared → Prop}, Q (.ref z) ⟨hp, g, d, tk, os⟩ → wpAny (model prog w) A' (pyIter (.ref z)) Q E ⟨hp, g, d, tk, os⟩ := fun q => wpAny_pyIter_zip hl q
    wp_walk using wpAny_loadPart' hl
    refine wpAny_stack_any fun st => wpAny_pure ?_
    split
    · rename_i c _ _ _ _ _
      cases (c == Value.type "enumerate")
      · wp_walk using wpAny_loadPart' hl, q1
        exact ⟨_, rfl, h⟩
      · wp_walk using wpAny_loadPart' hl, q1
        exact ⟨_, rfl, h⟩
    · wp_walk using wpAny_loadPart' hl, q1
      exact ⟨_, rfl, h⟩
variable {P : Program} {w : World} {A : Around} {E : Value → Shared → Prop} {s : Shared} {z TI TO i1 i2 e : Addr} {fp1 fp2 : List Addr} {n1 n2 : Nat} {P1 P2 : Nat → Value → Prop} {St1 St2 : Nat → Heap → Prop} {i : Nat} {old : Value}
theorem call_ez {Q : Value → Shared → Prop} (hz : IsZip s.heap z TI TO .none)
    (h : ∀ h', IsEnum h' s.heap.objs.size z 0 .none → h'.objs.size = s.heap.objs.size + 1 → (∀ b o, s.heap.get? b = some o → h'.get? b = some o) → Q (.ref s.heap.objs.size) { s with heap := h' }) :
    wpAny (model P w) A (call (.type "enumerate") [.ref z]) Q E s := by
  refine callType_new F.called_enumerate (by decide) (F.typeCall_enumerate_1 _) (F.newCall_enumerate_1 _) (fun obj => F.args_object_init_2 obj _) F.entry_enumerate_new (meets_ez z TI TO) ⟨hz, ?_⟩
  have he : IsEnum (s.heap.push { cls := .type "enumerate", data := .fields #[.none, .bool false, .ref z, rawInt 0, .none, .none] }) s.heap.objs.size z 0 .none := Heap.get?_push_size _ rfl
  exact ⟨⟨_, he, rfl⟩, h _ he (by rw [Heap.size_push]) fun b o y => Heap.get?_push_of_some _ y⟩
theorem zok_ty (h : Zok s.heap z TI TO) : s.TypeIs (.ref z) "zip" := by
  obtain ⟨h | ⟨T, b, h⟩, _⟩ := h
  · exact ⟨_, h, rfl⟩
  · exact ⟨_, h, rfl⟩
theorem ez_next {Q : Value → Shared → Prop} (S : ZipSep2 z TI TO i1 i2 fp1 fp2) (D1 : Draws P w A.in1 i1 fp1 n1 P1 St1) (D2 : Draws P w A.in1 i2 fp2 n2 P2 St2)
    (he : IsEnum s.heap e z i old) (hz : Zok s.heap z TI TO) (hTI : IsTupOf2 s.heap TI (.ref i1) (.ref i2)) (st1 : St1 i s.heap) (st2 : St2 i s.heap) (hlt1 : i < n1) (hlt2 : i < n2) (ne1 : e ≠ z) (ne2 : e ≠ TO) (ne3 : e ≠ i1) (ne4 : e ≠ i2)
    (hQ : ∀ x1 x2 h1 h' tk, P1 i x1 → P2 i x2 → Zok h1 z TI TO → St1 (i + 1) h1 → St2 (i + 1) h1 → IsTupOf2 h1 s.heap.objs.size x1 x2 → h1.objs.size = s.heap.objs.size + 1 → (∀ c o, c ≠ z → c ≠ TO → c ≠ i1 → c ≠ i2 → s.heap.get? c = some o → h1.get? c = some o) →
      IsEnumOut h' e z ((i : Int) + 1) (.ref s.heap.objs.size) (s.heap.objs.size + 1) → h'.get? (s.heap.objs.size + 1) = some { cls := .type "tuple", data := .seq #[.int i tk, .ref s.heap.objs.size] } → h'.objs.size = s.heap.objs.size + 2 →
      (∀ b o, b ≠ e → h1.get? b = some o → h'.get? b = some o) → Q (.ref (s.heap.objs.size + 1)) { s with heap := h', toks := tk + 1 }) :
    wpAny (model P w) A (Builtin.«enumerate.__next__» ⟨[.ref e], []⟩) (fun fin s' => ∃ v, fin = .done (.ret v) ∧ Q v s') E s := by
  obtain ⟨hp, g, d, tk0, os⟩ := s
  show wpAny _ _ (field (.ref e) 2 >>= _) _ _ _
  refine wpAny_bind (wpAny_field he rfl (x := .ref z) rfl ?_)
  have hTy := zok_ty hz
  refine wpAny_bind ?_
  unfold Builtin.SmallTypes.nextOf
  refine wpAny_bind (wpAny_callSpecial?_slot (name := Str.ofString "__next__") hTy F.slot_zip_next (wpAny_call_entry F.slot_zip_next hTy F.entry_zip_next ?_ (F.args_zip_next_1 _)))
  refine za_next S D1 D2 hz hTI st1 st2 hlt1 hlt2 fun x1 x2 h1 tk hx1 hx2 z1 s1 s2 t1 sz1 k1 => wpAny_pure ?_
  have e1 : IsEnum h1 e z i old := k1 _ _ ne1 ne2 ne3 ne4 he
  show wpAny _ _ (field (.ref e) 3 >>= _) _ _ ⟨h1, g, d, tk, os⟩
  refine wpAny_bind (wpAny_field e1 rfl (x := rawInt i) rfl ?_)
  show wpAny _ _ (field (.ref e) 4 >>= _) _ _ ⟨h1, g, d, tk, os⟩
  refine wpAny_bind (wpAny_field e1 rfl (x := .none) rfl ?_)
  show wpAny _ _ (mkInt i >>= _) _ _ ⟨h1, g, d, tk, os⟩
  refine wpAny_bind (wpAny_mkInt ?_)
  show wpAny _ _ (setField (.ref e) 3 (rawInt ((i : Int) + 1)) >>= _) _ _ ⟨h1, g, d, tk + 1, os⟩
  refine wpAny_bind (wpAny_setField_rec e1 (by simp) fun h2 e2 b2 => ?_)
  replace b2 : Heap.SameBut e h1 h2 := b2
  replace e2 : IsEnum h2 e z ((i : Int) + 1) old := e2
  show wpAny _ _ (setField (.ref e) 4 .none >>= _) _ _ ⟨h2, g, d, tk + 1, os⟩
  refine wpAny_bind (wpAny_setField_rec e2 (by simp) fun h3 e3 b3 => ?_)
  replace b3 : Heap.SameBut e h2 h3 := b3
  replace e3 : IsEnum h3 e z ((i : Int) + 1) old := e3
  show wpAny _ _ (newTuple [.int i tk, .ref hp.objs.size] >>= _) _ _ ⟨h3, g, d, tk + 1, os⟩
  refine wpAny_bind (wpAny_newTuple ?_)
  have e4 : IsEnum (h3.push { cls := .type "tuple", data := .seq #[.int i tk, .ref hp.objs.size] }) e z ((i : Int) + 1) old := Heap.get?_push_of_some _ e3
  generalize hh4 : h3.push { cls := .type "tuple", data := .seq #[.int i tk, .ref hp.objs.size] } = h4 at e4
  have sz3 : h3.objs.size = hp.objs.size + 1 := by rw [b3.1, b2.1]; exact sz1
  have el : e < hp.objs.size := Heap.lt_size he
  have t4 : h4.get? (hp.objs.size + 1) = some { cls := .type "tuple", data := .seq #[.int i tk, .ref hp.objs.size] } := by rw [← hh4, ← sz3]; exact Heap.get?_push_size _ rfl
  have sz4 : h4.objs.size = hp.objs.size + 2 := by rw [← hh4, Heap.size_push, sz3]
  have k4 : ∀ b o, b ≠ e → h1.get? b = some o → h4.get? b = some o := fun b o hbe hb => by
    rw [← hh4]; exact Heap.get?_push_of_some _ (b3.extBut b o hbe (b2.extBut b o hbe hb))
  show wpAny _ _ (Builtin.SmallTypes.ownedTupleIsFree (.ref e) >>= _) _ _ ⟨h4, g, d, tk + 1, os⟩
  rw [sz3]
  have ne5 : hp.objs.size + 1 ≠ e := Nat.ne_of_gt (Nat.lt_succ_of_lt el)
  refine wpAny_bind ?_
  unfold Builtin.SmallTypes.ownedTupleIsFree
  refine wpAny_bind (wpAny_field e4 rfl (x := .none) rfl (wpAny_pure ?_))
  simp only [if_true]
  refine wpAny_bind (wpAny_rule ?_)
  refine wpAny_bind (wpAny_field e4 rfl (x := old) rfl ?_)
  refine wpAny_bind (wpAny_setField_rec e4 (by simp) fun h5 e5 b5 => ?_)
  replace b5 : Heap.SameBut e h4 h5 := b5
  replace e5 : IsEnum h5 e z ((i : Int) + 1) (.ref hp.objs.size) := e5
  show wpAny _ _ (Builtin.SmallTypes.ownedTupleHandOut (.ref e) (.ref (hp.objs.size + 1)) >>= _) _ _ ⟨h5, g, d, tk + 1, os⟩
  refine wpAny_bind ?_
  unfold Builtin.SmallTypes.ownedTupleHandOut
  refine wpAny_bind (wpAny_setField_rec e5 (by simp) fun h6 e6 b6 => ?_)
  replace b6 : Heap.SameBut e h5 h6 := b6
  replace e6 : IsEnumOut h6 e z ((i : Int) + 1) (.ref hp.objs.size) (hp.objs.size + 1) := e6
  refine wpAny_setField_rec e6 (by simp) fun h7 e7 b7 => ?_
  replace b7 : Heap.SameBut e h6 h7 := b7
  replace e7 : IsEnumOut h7 e z ((i : Int) + 1) (.ref hp.objs.size) (hp.objs.size + 1) := e7
  refine wpAny_bind (wpAny_letGo (wpAny_pure ⟨_, rfl, hQ x1 x2 h1 h7 tk hx1 hx2 z1 s1 s2 t1 sz1 k1 e7 ?_ ?_ ?_⟩))
  · exact b7.extBut _ _ ne5 (b6.extBut _ _ ne5 (b5.extBut _ _ ne5 t4))
  · show h7.objs.size = hp.objs.size + 2
    rw [b7.1, b6.1, b5.1, sz4]
  · exact fun b o hbe hb => b7.extBut b o hbe (b6.extBut b o hbe (b5.extBut b o hbe (k4 b o hbe hb)))
theorem py_ez_next {Q : Option Value → Shared → Prop} (S : ZipSep2 z TI TO i1 i2 fp1 fp2) (D1 : Draws P w A.in1.in1 i1 fp1 n1 P1 St1) (D2 : Draws P w A.in1.in1 i2 fp2 n2 P2 St2)
    (he : IsEnum s.heap e z i old) (hz : Zok s.heap z TI TO) (hTI : IsTupOf2 s.heap TI (.ref i1) (.ref i2)) (st1 : St1 i s.heap) (st2 : St2 i s.heap) (hlt1 : i < n1) (hlt2 : i < n2) (ne1 : e ≠ z) (ne2 : e ≠ TO) (ne3 : e ≠ i1) (ne4 : e ≠ i2)
    (hQ : ∀ x1 x2 h1 h' tk, P1 i x1 → P2 i x2 → Zok h1 z TI TO → St1 (i + 1) h1 → St2 (i + 1) h1 → IsTupOf2 h1 s.heap.objs.size x1 x2 → h1.objs.size = s.heap.objs.size + 1 → (∀ c o, c ≠ z → c ≠ TO → c ≠ i1 → c ≠ i2 → s.heap.get? c = some o → h1.get? c = some o) →
      IsEnumOut h' e z ((i : Int) + 1) (.ref s.heap.objs.size) (s.heap.objs.size + 1) → h'.get? (s.heap.objs.size + 1) = some { cls := .type "tuple", data := .seq #[.int i tk, .ref s.heap.objs.size] } → h'.objs.size = s.heap.objs.size + 2 →
      (∀ b o, b ≠ e → h1.get? b = some o → h'.get? b = some o) → Q (some (.ref (s.heap.objs.size + 1))) { s with heap := h', toks := tk + 1 }) :
    wpAny (model P w) A (pyNext (.ref e)) Q E s := by
  have hT : s.TypeIs (.ref e) "enumerate" := ⟨_, he, rfl⟩
  unfold pyNext
  exact wpAny_bind (wpAny_attempt (wpAny_callSpecial?_slot (name := Str.ofString "__next__") hT F.slot_enumerate_next
    (wpAny_call_entry F.slot_enumerate_next hT F.entry_enumerate_next
      (ez_next S D1 D2 he hz hTI st1 st2 hlt1 hlt2 ne1 ne2 ne3 ne4 fun x1 x2 h1 h' tk q1 q2 q3 q4 q5 q6 q7 q8 q9 r1 r2 r3 => wpAny_pure (hQ x1 x2 h1 h' tk q1 q2 q3 q4 q5 q6 q7 q8 q9 r1 r2 r3)) (F.args_enumerate_next_1 _))))
theorem py_ez_end {Q : Option Value → Shared → Prop} (S : ZipSep2 z TI TO i1 i2 fp1 fp2) (D1 : Draws P w A.in1.in1 i1 fp1 n1 P1 St1) (D2 : Draws P w A.in1.in1 i2 fp2 n2 P2 St2)
    (he : IsEnum s.heap e z i old) (hz : Zok s.heap z TI TO) (hTI : IsTupOf2 s.heap TI (.ref i1) (.ref i2)) (st1 : St1 i s.heap) (st2 : St2 i s.heap) (hle1 : i ≤ n1) (hle2 : i ≤ n2) (hend : i = n1 ∨ i = n2)
    (hQ : ∀ h' tk, (∀ c o, c ≠ z → c ≠ TO → c ≠ i1 → c ≠ i2 → s.heap.get? c = some o → h'.get? c = some o) → Q none { s with heap := h', toks := tk }) : wpAny (model P w) A (pyNext (.ref e)) Q E s := by
  have hT : s.TypeIs (.ref e) "enumerate" := ⟨_, he, rfl⟩
  unfold pyNext
  refine wpAny_bind (wpAny_attempt (wpAny_callSpecial?_slot (name := Str.ofString "__next__") hT F.slot_enumerate_next
    (wpAny_call_entry F.slot_enumerate_next hT F.entry_enumerate_next ?_ (F.args_enumerate_next_1 _))))
  show wpAny _ _ (field (.ref e) 2 >>= _) _ _ _
  refine wpAny_bind (wpAny_field he rfl (x := .ref z) rfl ?_)
  have hTy := zok_ty hz
  refine wpAny_bind ?_
  unfold Builtin.SmallTypes.nextOf
  refine wpAny_bind (wpAny_callSpecial?_slot (name := Str.ofString "__next__") hTy F.slot_zip_next (wpAny_call_entry F.slot_zip_next hTy F.entry_zip_next ?_ (F.args_zip_next_1 _)))
  refine za_end S D1 D2 hz hTI st1 st2 hle1 hle2 hend fun h' tk x kp hx => ?_
  obtain ⟨o, ho, hc⟩ := hx
  refine wpAny_bind (wpAny_isInstance (T := "StopIteration") (b := true) ⟨o, ho, hc⟩ isSubtype_stop ?_)
  exact wpAny_pure (hQ _ _ kp)
end Mi
end
end
section
set_option Elab.async false
set_option linter.all false
set_option maxRecDepth 100000
set_option maxHeartbeats 3200000
/-! N12: a loop over enumerate(zip(a, b)). -/
namespace Mi
open PySem PyProof.Rows
open L2 (V HO Hp upd upd_same upd_ne SqL SqT Rd Cx Inv PE PT PA PS PSs PG PGs PI TE TT TA TS TG TGs TI It VK XK Ends RelV Vals ne_of_none OpR R2 EP CallR UnR IxR SlR TruR Gl Vis Loc HOk Turn FpOk)
/-- the tuples at a and b, numbered pairs of their items -/
def Jez (K : Fg) (a b : Addr) : It :=
  ⟨fun i H => ∃ (xs ys : List V) (x y : V), SqT K H a xs ∧ SqT K H b ys ∧ xs[i]? = some x ∧ ys[i]? = some y,
    fun i H v H' => ∃ (T T2 : Addr) (x y : V), v = .ref T2 ∧ H T = none ∧ upd H T (.tup [x, y]) T2 = none ∧ H' = upd (upd H T (.tup [x, y])) T2 (.tup [.int (i : Nat), .ref T]) ∧ (∀ xs, SqT K H a xs → xs[i]? = some x) ∧ ∀ ys, SqT K H b ys → ys[i]? = some y,
    fun i H => ∃ xs ys : List V, SqT K H a xs ∧ SqT K H b ys ∧ (xs.length ≤ i ∨ ys.length ≤ i)⟩
/-- a tuple's iterator at its end -/
theorem draws_end {P : Program} {w : World} {A : Around} (hh : A.handled = none) (it t : Addr) (items : Array Value) (i : Nat) (hi : items[i]? = none) :
    Draws P w A it [it, t] i (fun _ _ => True) (fun j h => j = i ∧ h.IsTupleIter it t i ∧ h.IsTuple t items) where
  live := fun _ _ st => let ⟨o, ho, _⟩ := st.2.1; ⟨o, ho⟩
  frame := fun _ _ _ st hk => ⟨st.1, st.2.1.at fun o e => hk it (by simp) o e, st.2.2.at fun o e => hk t (by simp) o e⟩
  item := fun j s Q E hj st hQ => absurd st.1 (by omega)
  done := fun s Q E st hE => wpAny_nextOf_tuple_end hh st.2.1 st.2.2 hi hE
theorem turn_ez {P : Program} {w : World} {K : Fg} {elts : List Expr} {kk : Nat} {tpos : Pos} {a b e z TI TO i1 i2 : Addr} (S : ZipSep2 z TI TO i1 i2 [i1, a] [i2, b]) (ne : e ≠ z ∧ e ≠ TI ∧ e ≠ TO ∧ e ≠ i1 ∧ e ≠ i2) (h1a : a ≠ i1) (h2b : b ≠ i2) :
    Turn P w K (.Tuple elts kk tpos) (Jez K a b) [e, z, TI, TO, i1, i2] e (fun i h => (∃ old, IsEnum h e z (i : Nat) old) ∧ Zok h z TI TO ∧ IsTupOf2 h TI (.ref i1) (.ref i2) ∧ h.IsTupleIter i1 a i ∧ h.IsTupleIter i2 b i) where
  mem := by simp
  obj := fun i h st c hc => by
    obtain ⟨⟨old, he⟩, ⟨hz, x, y, hTO⟩, hTI, ⟨o1, e1, _, d1⟩, ⟨o2, e2, _, d2⟩⟩ := st
    have e' : c = e ∨ c = z ∨ c = TI ∨ c = TO ∨ c = i1 ∨ c = i2 := by simpa using hc
    rcases e' with q | q | q | q | q | q
    · rw [q]; exact ⟨_, he, fun v q => nomatch q⟩
    · rw [q]
      rcases hz with hz | ⟨T, f, hz⟩
      · exact ⟨_, hz, fun v q => nomatch q⟩
      · exact ⟨_, hz, fun v q => nomatch q⟩
    · rw [q]; exact ⟨_, hTI, fun v q => nomatch q⟩
    · rw [q]; exact ⟨_, hTO, fun v q => nomatch q⟩
    · rw [q]; exact ⟨o1, e1, fun v q => by rw [d1] at q; cases q⟩
    · rw [q]; exact ⟨o2, e2, fun v q => by rw [d2] at q; cases q⟩
  keep := fun i h h' st k => by
    obtain ⟨⟨old, he⟩, ⟨hz, x, y, hTO⟩, hTI, h1, h2⟩ := st
    refine ⟨⟨old, k e (by simp) _ he⟩, ⟨?_, x, y, k TO (by simp) _ hTO⟩, k TI (by simp) _ hTI, h1.at fun o q => k i1 (by simp) o q, h2.at fun o q => k i2 (by simp) o q⟩
    rcases hz with hz | ⟨T, f, hz⟩
    · exact .inl (k z (by simp) _ hz)
    · exact .inr ⟨T, f, k z (by simp) _ hz⟩
  item := by
    intro X hP hw hK hc i pins s σ H E I hf st hg
    subst hP hw hK
    obtain ⟨⟨old, he⟩, hz, hTI, h1, h2⟩ := st
    obtain ⟨xs, ys, x, y, hqx, hqy, hx, hy⟩ := hg
    obtain ⟨its, rv, p, _⟩ := I.tuple hqx
    obtain ⟨its2, rv2, p2, _⟩ := I.tuple hqy
    obtain ⟨u, hu, ru⟩ := rv.get hx
    obtain ⟨u2, hu2, ru2⟩ := rv2.get hy
    have hh : X.A.in1.in1.handled = none := by simp [I.ok.hd hc]
    have hlt1 : i < its.toArray.size := by
      have := (List.getElem?_eq_some_iff.mp hu).1; simpa using this
    have hlt2 : i < its2.toArray.size := by
      have := (List.getElem?_eq_some_iff.mp hu2).1; simpa using this
    have el : e < s.heap.objs.size := Heap.lt_size he
    refine py_ez_next S (Draws.tuple hh i1 a h1a its.toArray) (Draws.tuple hh i2 b h2b its2.toArray) he hz hTI ⟨h1, p⟩ ⟨h2, p2⟩ hlt1 hlt2 ne.1 ne.2.2.1 ne.2.2.2.1 ne.2.2.2.2 fun x1 x2 g1 g' tk q1 q2 q3 q4 q5 q6 q7 q8 q9 r1 r2 r3 => ?_
    have v1 : x1 = u := by
      have q1' : its[i]? = some x1 := by simpa using q1
      rw [hu] at q1'; exact (Option.some.inj q1').symm
    have v2 : x2 = u2 := by
      have q2' : its2[i]? = some x2 := by simpa using q2
      rw [hu2] at q2'; exact (Option.some.inj q2').symm
    subst v1 v2
    refine ⟨_, rfl, wpAny_letOwnedTupleGo_enum (s := { s with heap := g', toks := tk + 1 }) q9 fun g2 he2 sb => ?_⟩
    have hT2 : g2.get? (s.heap.objs.size + 1) = some { cls := .type "tuple", data := .seq #[.int i tk, .ref s.heap.objs.size] } := (sb.2 _ (Nat.ne_of_gt (Nat.lt_succ_of_lt el))).trans r1
    have new1 : L2.ObjOk X.prog X.w (upd H s.heap.objs.size (.tup [x, y])) g1 s.heap.objs.size (.tup [x, y]) :=
      ⟨by show 2 ≤ sizeLine; decide, [x1, x2], .cons ru (.cons ru2 .nil), ⟨_, q6, rfl, _, rfl⟩⟩
    have J1 : Inv X pins σ (upd H s.heap.objs.size (.tup [x, y])) { s with heap := g1 } :=
      I.turnedNew (t' := s.toks) (ch := [z, TI, TO, i1, i2]) (fun c o hb q => q8 c o (fun q' => hb (by simp [q'])) (fun q' => hb (by simp [q'])) (fun q' => hb (by simp [q'])) (fun q' => hb (by simp [q'])) q) (fun c hcm => hf c (by
        simp at hcm ⊢
        exact .inr hcm)) (Nat.le_refl _) new1
    have hfr : ∀ c ∈ [e, z, TI, TO, i1, i2], c < s.heap.objs.size := fun c hcm => by
      obtain ⟨⟨hz', x', y', hTO⟩, _⟩ := And.intro hz trivial
      have e' : c = e ∨ c = z ∨ c = TI ∨ c = TO ∨ c = i1 ∨ c = i2 := by simpa using hcm
      rcases e' with q | q | q | q | q | q
      · rw [q]; exact el
      · rw [q]
        rcases hz' with hz' | ⟨T, f, hz'⟩ <;> exact Heap.lt_size hz'
      · rw [q]; exact Heap.lt_size hTI
      · rw [q]; exact Heap.lt_size hTO
      · rw [q]; obtain ⟨_, e1, _⟩ := h1; exact Heap.lt_size e1
      · rw [q]; obtain ⟨_, e2, _⟩ := h2; exact Heap.lt_size e2
    have fpe : FpOk X pins (upd H s.heap.objs.size (.tup [x, y])) e := by
      obtain ⟨f0, f1, f2, f3, f4, f5⟩ := hf e (by simp)
      exact ⟨by rw [upd_ne (Nat.ne_of_lt el)]; exact f0, f1, f2, f3, f4, f5⟩
    have hn2 : upd H s.heap.objs.size (.tup [x, y]) (s.heap.objs.size + 1) = none := by
      rw [upd_ne (Nat.ne_of_gt (Nat.lt_succ_self _))]
      exact I.hok.fresh (Nat.le_succ _)
    have new2 : L2.ObjOk X.prog X.w (upd (upd H s.heap.objs.size (.tup [x, y])) (s.heap.objs.size + 1) (.tup [.int (i : Nat), .ref s.heap.objs.size])) g2 (s.heap.objs.size + 1) (.tup [.int (i : Nat), .ref s.heap.objs.size]) :=
      ⟨by show 2 ≤ sizeLine; decide, [.int i tk, .ref s.heap.objs.size], .cons ⟨_, rfl⟩ (.cons rfl .nil), ⟨_, hT2, rfl, _, rfl⟩⟩
    have J2 : Inv X pins σ (upd (upd H s.heap.objs.size (.tup [x, y])) (s.heap.objs.size + 1) (.tup [.int (i : Nat), .ref s.heap.objs.size])) { s with heap := g2, toks := tk + 1 } :=
      J1.turnedNew (t' := tk + 1) (ch := [e]) (fun c o hb q => (sb.2 c (fun q' => hb (by simp [q']))).trans (r3 c o (fun q' => hb (by simp [q'])) q)) (fun c hcm => by
        rw [List.mem_singleton.mp hcm]; exact fpe) (by show g1.objs.size ≤ _; rw [q7]; exact Nat.le_refl _) new2
    refine ⟨.ref (s.heap.objs.size + 1), _, J2, rfl, ⟨s.heap.objs.size, s.heap.objs.size + 1, x, y, rfl, I.hok.fresh (Nat.le_refl _), hn2, rfl, fun l hl => by rw [I.tuple_inj hl hqx]; exact hx, fun l hl => by rw [I.tuple_inj hl hqy]; exact hy⟩, ⟨⟨.ref s.heap.objs.size, ?_⟩, ?_, ?_, ?_, ?_⟩, fun c hcm => ?_⟩
    · have e1 : ((i + 1 : Nat) : Int) = (i : Int) + 1 := by omega
      rw [e1]; exact he2
    · obtain ⟨hz', x', y', hTO⟩ := q3
      have kk : ∀ c o, c ≠ e → g1.get? c = some o → g2.get? c = some o := fun c o c1 q => (sb.2 c c1).trans (r3 c o c1 q)
      refine ⟨?_, x', y', kk _ _ (Ne.symm ne.2.2.1) hTO⟩
      rcases hz' with hz' | ⟨T, f, hz'⟩
      · exact .inl (kk _ _ (Ne.symm ne.1) hz')
      · exact .inr ⟨T, f, kk _ _ (Ne.symm ne.1) hz'⟩
    · exact (sb.2 _ (Ne.symm ne.2.1)).trans (r3 _ _ (Ne.symm ne.2.1) (q8 _ _ S.TIz S.TITO S.TIi1 S.TIi2 hTI))
    · exact q4.1.at fun o q => (sb.2 _ (Ne.symm ne.2.2.2.1)).trans (r3 _ _ (Ne.symm ne.2.2.2.1) q)
    · exact q5.1.at fun o q => (sb.2 _ (Ne.symm ne.2.2.2.2)).trans (r3 _ _ (Ne.symm ne.2.2.2.2) q)
    · have := hfr c hcm
      rw [upd_ne (Nat.ne_of_lt (Nat.lt_succ_of_lt this)), upd_ne (Nat.ne_of_lt this)]
      exact (hf c hcm).1
  done := by
    intro X hP hw hK hc i pins s σ H E I hf st hg
    subst hP hw hK
    obtain ⟨⟨old, he⟩, hz, hTI, h1, h2⟩ := st
    obtain ⟨xs, ys, hqx, hqy, hend⟩ := hg
    obtain ⟨its, rv, p, _⟩ := I.tuple hqx
    obtain ⟨its2, rv2, p2, _⟩ := I.tuple hqy
    have l1 := rv.length
    have l2 := rv2.length
    have hh : X.A.in1.in1.handled = none := by simp [I.ok.hd hc]
    have fin : ∀ (h' : Heap) (tk : Nat), (∀ c o, c ≠ z → c ≠ TO → c ≠ i1 → c ≠ i2 → s.heap.get? c = some o → h'.get? c = some o) → (none : Option Value) = none ∧ Inv X pins σ H { s with heap := h', toks := tk } := fun h' tk kp =>
      ⟨rfl, I.turnedL (t' := tk) (ch := [e, z, TI, TO, i1, i2]) (fun c o hb q => kp c o (fun q' => hb (by simp [q'])) (fun q' => hb (by simp [q'])) (fun q' => hb (by simp [q'])) (fun q' => hb (by simp [q'])) q) hf⟩
    by_cases q : xs.length ≤ i
    · have n1 : its.toArray[i]? = none := by simp; omega
      by_cases q2 : ys.length ≤ i
      · have n2 : its2.toArray[i]? = none := by simp; omega
        exact py_ez_end S (draws_end hh i1 a its.toArray i n1) (draws_end hh i2 b its2.toArray i n2) he hz hTI ⟨rfl, h1, p⟩ ⟨rfl, h2, p2⟩ (Nat.le_refl _) (Nat.le_refl _) (.inl rfl) fin
      · exact py_ez_end S (draws_end hh i1 a its.toArray i n1) (Draws.tuple hh i2 b h2b its2.toArray) he hz hTI ⟨rfl, h1, p⟩ ⟨h2, p2⟩ (Nat.le_refl _) (by simp; omega) (.inl rfl) fin
    · have q2 : ys.length ≤ i := hend.resolve_left q
      have n2 : its2.toArray[i]? = none := by simp; omega
      exact py_ez_end S (Draws.tuple hh i1 a h1a its.toArray) (draws_end hh i2 b its2.toArray i n2) he hz hTI ⟨h1, p⟩ ⟨rfl, h2, p2⟩ (by simp; omega) (Nat.le_refl _) (.inr rfl) fin
  self := fun A i s Q E st h => let ⟨⟨_, he⟩, _⟩ := st; wpAny_pyIter_enum he h
section
variable {C : Cx} {W : Nat → Option Addr → Hp → Prop} {fs : En → Sr → R (List Vl)}
theorem pi_ez {e1 e2 : Expr} {ta : TA} {p0 p1 p2 pos tpos : Pos} {elts : List Expr} {kk : Nat} (hg : Gl C "enumerate") (hm : C.mg "enumerate" = none) (hg2 : Gl C "zip") (hm2 : C.mg "zip" = none) (ha : PA C [e1, e2] ta)
    (hs0 : ∀ env, starEach [.Call (.Name "zip" p1) [e1, e2] [] p2] env = [(false, eval (.Call (.Name "zip" p1) [e1, e2] [] p2) env)])
    (hs : starEach [e1, e2] C.env = (false, eval e1 C.env) :: starEach [e2] C.env) (hpl : (backTo p2 (starEach [e2] C.env)).any (·.1) = false) :
    PI C (.Tuple elts kk tpos) (.Call (.Name "enumerate" p0) [.Call (.Name "zip" p1) [e1, e2] [] p2] [] pos) (fun σ H R => ta σ H fun vs H1 => ∃ a b xs ys, vs = [.ref a, .ref b] ∧ SqT C.K H1 a xs ∧ SqT C.K H1 b ys ∧ R (Jez C.K a b) H1) := by
  refine ⟨fun pins s σ H R I h => ?_⟩
  refine PyProof.Rows.Call_ (L2.ld_blt I hg hm boot_enumerate (PyProof.Rows.callWith_type1 (PyProof.Rows.args_cons ?_ rfl) (hs0 _) rfl))
  refine PyProof.Rows.Call_ (L2.ld_blt I hg2 hm2 (show bootBuiltins "zip" = some (.type "zip") by decide +kernel) ?_)
  refine PyProof.Rows.callWith_type1 (L2.thn (ha.run p2 pins s σ H _ I h) fun us s1 ⟨vs, H1, I1, r1, q1⟩ => ?_) hs hpl
  obtain ⟨a, b, xs, ys, ex, hqx, hqy, q⟩ := q1
  subst ex
  cases r1 with
  | cons r rr =>
    cases rr with
    | cons r' rr =>
      cases rr
      cases r
      cases r'
      obtain ⟨its, rv, p1', _⟩ := I1.tuple hqx
      obtain ⟨its2, rv2, p2', _⟩ := I1.tuple hqy
      have la : a < s1.heap.objs.size := by obtain ⟨o, e, _⟩ := p1'; exact Heap.lt_size e
      have lb : b < s1.heap.objs.size := by obtain ⟨o, e, _⟩ := p2'; exact Heap.lt_size e
      refine RZ.call_zipT (show s1.heap.IsTuple a its.toArray from p1') (show s1.heap.IsTuple b its2.toArray from p2') fun h' hz hTI hTO h1 h2 hsz hk => PyProof.Rows.args_nil ?_
      refine call_ez (s := { s1 with heap := h' }) hz fun h2' he hsz2 hk2 => wpAny_pyIter_enum he ?_
      have sz5 : ({ s1 with heap := h' } : Shared).heap.objs.size = s1.heap.objs.size + 5 := hsz
      have I2 : Inv C pins σ H1 { s1 with heap := h2' } := I1.kept (t' := s1.toks) fun c o e => hk2 c o (hk c o e)
      rw [sz5] at he
      have e' : ∀ c, c ∈ [s1.heap.objs.size + 5, s1.heap.objs.size + 4, s1.heap.objs.size + 2, s1.heap.objs.size + 3, s1.heap.objs.size, s1.heap.objs.size + 1] → s1.heap.objs.size ≤ c := fun c hc => by
        simp at hc; omega
      refine ⟨s1.heap.objs.size + 5, [s1.heap.objs.size + 5, s1.heap.objs.size + 4, s1.heap.objs.size + 2, s1.heap.objs.size + 3, s1.heap.objs.size, s1.heap.objs.size + 1], _, _, H1, by rw [sz5], I2, turn_ez (zsep s1.heap.objs.size a b la lb) ⟨Nat.ne_of_gt (by omega), Nat.ne_of_gt (by omega), Nat.ne_of_gt (by omega), Nat.ne_of_gt (by omega), Nat.ne_of_gt (by omega)⟩ (Nat.ne_of_lt la) (Nat.ne_of_lt (Nat.lt_succ_of_lt lb)), ⟨⟨.none, he⟩, ⟨.inl (hk2 _ _ hz), _, _, hk2 _ _ hTO⟩, hk2 _ _ hTI, h1.at fun o e => hk2 _ o e, h2.at fun o e => hk2 _ o e⟩, fun c hc => I1.fpOk (e' c hc) (I1.hok.fresh (e' c hc)), q⟩
theorem enz_get : ∀ (ds es : List P) (i : Nat) (v : Vl) (k : Nat), (enumP k (zpP ds es))[i]? = some v → ∃ d d2, ds[i]? = some d ∧ es[i]? = some d2 ∧ v = .p (.tuple [.int ((k + i : Nat)), .tuple [d, d2]])
  | [], es, i, v, k, h => by simp [zpP, enumP] at h
  | d :: ds, [], i, v, k, h => by simp [zpP, enumP] at h
  | d :: ds, e :: es, 0, v, k, h => by
    simp [zpP, enumP] at h
    exact ⟨d, e, rfl, rfl, h.symm⟩
  | d :: ds, e :: es, i + 1, v, k, h => by
    simp only [zpP, enumP, List.getElem?_cons_succ] at h
    obtain ⟨d1, d2, h1, h2, h3⟩ := enz_get ds es i v (k + 1) h
    exact ⟨d1, d2, by simpa using h1, by simpa using h2, by rw [h3]; congr 4; omega⟩
theorem enz_len : ∀ (ds es : List P) (i k : Nat), (enumP k (zpP ds es)).length ≤ i → ds.length ≤ i ∨ es.length ≤ i
  | [], es, i, k, h => .inl (by simp)
  | d :: ds, [], i, k, h => .inr (by simp)
  | d :: ds, e :: es, 0, k, h => by simp [zpP, enumP] at h
  | d :: ds, e :: es, i + 1, k, h => by
    simp only [zpP, enumP, List.length_cons, Nat.add_le_add_iff_right] at h
    rcases enz_len ds es i (k + 1) h with h | h
    · exact .inl (by simpa using h)
    · exact .inr (by simpa using h)
theorem itEz {K : Fg} {O : Addr → Prop} {ρ : Nat → Addr} {st : Sr} {H : Hp} {a b : Addr} {ds es : List P} {vs us : List V} (S : RelS K O ρ H st) (l : SqT K H a vs) (r : ReqP K (Mt O ρ st) H ds vs) (l2 : SqT K H b us) (r2 : ReqP K (Mt O ρ st) H es us) : ItOk K O ρ st H (enumP 0 (zpP ds es)) (Jez K a b) := by
  intro O' ρ' st' H' w s S' i
  have l' := s.tupK S l
  have r' := r.go S w s
  have l2' := s.tupK S l2
  have r2' := r2.go S w s
  refine ⟨fun v hv => ?_, fun hi => ⟨vs, us, l', l2', by rw [← r.len, ← r2.len]; exact enz_len _ _ _ _ hi⟩⟩
  obtain ⟨d, d2, hd, hd2, rfl⟩ := enz_get _ _ _ _ _ hv
  obtain ⟨u, h1, h2⟩ := r'.get hd
  obtain ⟨u2, h3, h4⟩ := r2'.get hd2
  refine ⟨⟨vs, us, u, u2, l', l2', h1, h3⟩, fun x H'' ⟨T, T2, y, y2, e1, e2, e2', e3, e4, e5⟩ => ?_⟩
  subst e1 e3
  have t1 := e4 vs l'
  have t2 := e5 us l2'
  rw [h1] at t1
  rw [h3] at t2
  cases t1
  cases t2
  have n1 := S'.new (o := .tup [u, u2]) e2
  have s1 := Stp.new (o := .tup [u, u2]) S' e2
  have p1 := rep_newT S' e2 (.cons h2 (.cons h4 .nil))
  refine ⟨Stp.trans S' n1 s1 (Stp.new n1 e2'), n1.new e2', ?_⟩
  rw [Nat.zero_add]
  exact rep_newT n1 e2' (.cons (.int _) (.cons p1 .nil))
theorem iEnz {T0 T1 : T} {p0 p1 p2 p tpos : Pos} {elts : List Expr} {kk : Nat} (hg : Gl C "enumerate") (hm : C.mg "enumerate" = none) (hg2 : Gl C "zip") (hm2 : C.mg "zip" = none) (ha : PA C [toE T0, toE T1] (TrA C.K W fs)) :
    PI C (.Tuple elts kk tpos) (.Call (.Name "enumerate" p0) [.Call (.Name "zip" p1) [toE T0, toE T1] [] p2] [] p) (TrI C.K W fun e s => (fs e s).bd fun vs s => R.of (ezV vs) s) :=
  imI (pi_ez hg hm hg2 hm2 ha (fun _ => rfl) (star_cons _ _ _) (by rw [back_any, star_cons]; rfl)) fun σ H Q ⟨O, ρ, e, st, R, h⟩ => ⟨O, ρ, e, st, R, End.bd R.S h fun x st1 ρ1 H1 v q s1 S1 r1 h1 => by
    unfold ezV at h1
    split at h1
    · rename_i ds es
      cases r1 with
      | cons r rr =>
        cases rr with
        | cons r' rr =>
          cases rr
          obtain ⟨a', vs, rfl, l, rr⟩ := RepP.tup_inv r
          obtain ⟨a2, vs2, rfl, l2, rr2⟩ := RepP.tup_inv r'
          exact ⟨a', a2, vs, vs2, rfl, l, l2, h1.at S1 (itEz S1 l rr l2 rr2)⟩
    · exact h1.elim⟩
end
end Mi
end
section
set_option Elab.async false
set_option linter.all false
set_option maxRecDepth 100000
set_option maxHeartbeats 2000000
/-! N13: list(a), [..] * n, to be changed. -/
namespace Mi
open PySem PyProof.Rows
open L2 (V HO Hp upd upd_same upd_ne SqL SqT Rd Cx Inv PE PT PA PS PSs PG PGs PI TE TT TA TS TG TGs TI It VK XK Ends RelV Vals ne_of_none OpR R2 EP CallR UnR IxR SlR TruR Gl Vis Loc HOk)
section
variable {C : Cx} {W : Nat → Option Addr → Hp → Prop} {fa fb : En → Sr → R Vl} {fs : En → Sr → R (List Vl)} {pos : Pos}
theorem xLsm {T0 : T} {p0 : Pos} (hg : Gl C "list") (hm : C.mg "list" = none) (ha : PA C [toE T0] (TrA C.K W fs)) :
    PE C (.Call (.Name "list" p0) [toE T0] [] pos) (TrE C.K W fun e s => (fs e s).bd lsmV) :=
  imE (L2.pe_callTy L2.call_list_of hg hm PyProof.Rows.boot_list ha (by decide +kernel) (by decide) (star_cons _ _ _) (by rw [back_any]; rfl)) fun σ H Q ⟨O, ρ, e, st, R, h⟩ => ⟨O, ρ, e, st, R, End.bd R.S h fun x st1 ρ1 H1 v _ s1 S1 r1 h1 => by
    unfold lsmV at h1
    split at h1
    · rename_i xs e1
      obtain ⟨y, rfl, hy⟩ := RdPs.one (C := C) (ddL_rd S1 r1 e1)
      obtain ⟨a, vs, rfl, l, rr⟩ := hy.list
      exact ⟨a, vs, rfl, .inl l.sq, fun p hp => mkLst_end S1 h1 hp rr⟩
    · rename_i xs e1
      obtain ⟨y, rfl, hy⟩ := RdPs.one (C := C) (ddL_rd S1 r1 e1)
      obtain ⟨a, vs, rfl, l, rr⟩ := hy.tup
      exact ⟨a, vs, rfl, .inr l, fun p hp => mkLst_end S1 h1 hp rr⟩
    · exact h1.elim⟩
theorem opRpm : OpR C (binaryOp .Mult) (fun x y H Q => ∃ (l : Addr) (xs : List V) (k : Int), x = .ref l ∧ y = .int k ∧ LsX C.K H l xs ∧ 0 ≤ k ∧ k < 2 ^ 63 ∧ xs.length * k.toNat ≤ sizeLine ∧ ∀ p, H p = none → Q (.ref p) (upd H p (.lst (rep xs k.toNat)))) := by
  intro pins s σ H x y v u Q I rx ry ⟨l, xs, k, e1, e2, h1, h2, h3, h4, q⟩
  subst e1 e2
  cases rx
  obtain ⟨t, rfl⟩ := ry
  exact mul_two I h1 h2 h3 h4 q
theorem xRpm {a b : Expr} (ha : PE C a (TrE C.K W fa)) (hb : PE C b (TrE C.K W fb)) : PE C (.BinOp a .Mult b pos) (TrE C.K W fun e s => (fa e s).bd fun v s => (fb e s).bd fun w s => rpmV v w s) :=
  imE (L2.pe_op opRpm ha hb) fun σ H Q ⟨O, ρ, e, st, R, h⟩ => ⟨O, ρ, e, st, R, End.bd R.S h fun x st1 ρ1 H1 v _ s1 S1 r1 h1 => ⟨O, ρ1, e, st1, R.go s1 S1, End.bd S1 h1 fun y st2 ρ2 H2 u _ s2 S2 r2 h2 => by
    unfold rpmV at h2
    split at h2
    · rename_i xs k e1 e2
      split at h2
      · rename_i hz
        obtain ⟨l, vs, rfl, h3, rr⟩ := (dd_rd S2 (Rep.stp S1 s2 r1) e1).list
        cases (dd_rd S2 r2 e2).int
        have l1 := rr.len
        exact ⟨l, vs, k, rfl, rfl, h3, hz.1, by have := hz.2.1; unfold lim at this; omega, lim_line (by rw [← l1]; exact hz.2.2), fun p hp => mkLst_end S2 h2 hp (rep_req rr k.toNat)⟩
      · exact h2.elim
    · exact h2.elim⟩⟩
end
end Mi
end
section
set_option Elab.async false
set_option linter.all false
set_option maxRecDepth 100000
set_option maxHeartbeats 1000000
/-! M12: for, while. -/
namespace Mi
open PySem
open L2 (V HO Hp upd upd_same upd_ne SqL SqT Rd Cx Inv PE PT PA PS PSs PG PGs PI TE TT TA TS TG TGs TI It VK XK Ends RelV Vals ne_of_none OpR R2 EP CallR UnR IxR SlR TruR Gl Vis Loc Itl Itt Itr)
section
variable {C : Cx} {W : Nat → Option Addr → Hp → Prop} {a b c : Expr} {es : List Expr} {fa fb fc : En → Sr → R Vl} {fs : En → Sr → R (List Vl)} {pos : Pos} {tg : Expr}
theorem EndS.sub {K : Fg} {O : Addr → Prop} {ρ : Nat → Addr} {st : Sr} {H : Hp} {r : X} {D D' : Ends} (h : EndS K W O ρ st H r D)
    (h1 : ∀ e' s', r = .nx e' s' → (∀ ρ' σ' H', Stp ρ st H ρ' s' H' → Rel K O ρ' σ' H' e' s' → D.nx σ' H') → ∀ ρ' σ' H', Stp ρ st H ρ' s' H' → Rel K O ρ' σ' H' e' s' → D'.nx σ' H')
    (h2 : ∀ e' s', r = .bk e' s' → (∀ ρ' σ' H', Stp ρ st H ρ' s' H' → Rel K O ρ' σ' H' e' s' → D.bk σ' H') → ∀ ρ' σ' H', Stp ρ st H ρ' s' H' → Rel K O ρ' σ' H' e' s' → D'.bk σ' H')
    (h3 : ∀ e' s', r = .ct e' s' → (∀ ρ' σ' H', Stp ρ st H ρ' s' H' → Rel K O ρ' σ' H' e' s' → D.ct σ' H') → ∀ ρ' σ' H', Stp ρ st H ρ' s' H' → Rel K O ρ' σ' H' e' s' → D'.ct σ' H')
    (h4 : ∀ v H, D.rt v H → D'.rt v H) : EndS K W O ρ st H r D' := by
  cases r with
  | nx e' s' => exact h1 e' s' rfl h
  | bk e' s' => exact h2 e' s' rfl h
  | ct e' s' => exact h3 e' s' rfl h
  | rt a s' => exact fun ρ' H' b s S' r => h4 _ _ (h ρ' H' b s S' r)
  | ex c x s' => exact h
  | no => exact h
theorem forL_nil {tg : Vl → En → Sr → X} {body : En → Sr → X} {e : En} {s : Sr} : forL tg body [] e s = .nx e s := rfl
theorem forL_cons {tg : Vl → En → Sr → X} {body : En → Sr → X} {v : Vl} {r : List Vl} {e : En} {s : Sr} : forL tg body (v :: r) e s = match tg v e s with
    | .nx e s => match body e s with
      | .nx e s => forL tg body r e s
      | .ct e s => forL tg body r e s
      | .bk e s => .nx e s
      | x => x
    | _ => .no := rfl
/-- a turn: the target, the body, what follows -/
theorem turn_ok {K : Fg} {O : Addr → Prop} {ρ : Nat → Addr} {σ : Sg} {st : Sr} {H : Hp} {e : En} {fk : Vl → En → Sr → X} {fb : En → Sr → X} {go : En → Sr → X} {v : Vl} {x : V} {D : Ends} {N : Sg → Hp → Prop}
    (R : Rel K O ρ σ H e st) (r : Rep K O ρ st H v x)
    (h : EndS K W O ρ st H (match fk v e st with
      | .nx e s => match fb e s with
        | .nx e s => go e s
        | .ct e s => go e s
        | .bk e s => .nx e s
        | x => x
      | _ => .no) D)
    (hN : ∀ ρ' σ' H' e' s', Stp ρ st H ρ' s' H' → Rel K O ρ' σ' H' e' s' → EndS K W O ρ' s' H' (go e' s') D → N σ' H') :
    TrG K W fk x σ H fun σ2 H2 => TrS K W fb { D with nx := N, ct := N, bk := D.nx } σ2 H2 := by
  refine ⟨O, ρ, e, st, v, R, r, ?_⟩
  cases q : fk v e st with
  | nx e1 s1 =>
    rw [q] at h
    intro ρ2 σ2 H2 t2 R2
    refine ⟨O, ρ2, e1, s1, R2, ?_⟩
    have h2 := EndS.later h R.S R2.S t2
    dsimp only at h2
    have again : ∀ e' s', EndS K W O ρ2 s1 H2 (go e' s') D → ∀ ρ' σ' H', Stp ρ2 s1 H2 ρ' s' H' → Rel K O ρ' σ' H' e' s' → N σ' H' := fun e' s' h3 ρ' σ' H' t' R' =>
      hN ρ' σ' H' e' s' (t2.trans R.S R2.S t') R' (h3.later R2.S R'.S t')
    cases q2 : fb e1 s1 with
    | nx e2 s2 => rw [q2] at h2; exact again e2 s2 h2
    | ct e2 s2 => rw [q2] at h2; exact again e2 s2 h2
    | bk e2 s2 => rw [q2] at h2; exact h2
    | rt a s2 => rw [q2] at h2; exact h2
    | ex c y s2 => rw [q2] at h2; exact h2
    | no => rw [q2] at h2; exact h2.elim
  | _ => rw [q] at h; exact h.elim
theorem sFor {T0 : T} {body : List Stmt} {fi : En → Sr → R (List Vl ⊕ Nat)} {fk : Vl → En → Sr → X} {fb : En → Sr → X} (hp : PassesOwn (model C.prog C.w) C.A C.env C.xe) (hc : C.calm = true) (hi : PI C tg a (TrI C.K W fi)) (hg : PG C tg (TrG C.K W fk)) (hb : PSs C body (TrS C.K W fb))
    (hs : ∀ x, foldedSetIterable a C.env x = pure x) : PS C (.For tg a body [] pos) (TrS C.K W fun e s => (fi e s).bx fun w s => match w with
      | .inl vs => forL fk fb vs e s
      | .inr n => forR fk fb n bigN 0 e s) :=
  imS (L2.ps_for hp hc hi hg hb hs) fun D σ H ⟨O, ρ, e, st, R, h⟩ => ⟨O, ρ, e, st, R, End.bx R.S h fun w st1 ρ1 H1 J _ s1 S1 r1 h1 => by
    have R1 := R.go s1 S1
    cases w with
    | inl vs =>
      have ok : ItOk C.K O ρ1 st1 H1 vs J := r1
      refine ⟨fun i m σ H => m = vs.length - i ∧ ∃ ρ e st, Stp ρ1 st1 H1 ρ st H ∧ Rel C.K O ρ σ H e st ∧ EndS C.K W O ρ st H (forL fk fb (vs.drop i) e st) D, ⟨vs.length, by simp, ρ1, e, st1, .rfl, R1, h1⟩, ?_⟩
      rintro i m σ H ⟨rfl, ρ2, e2, st2, s2, R2, h2⟩
      have oki := ok O ρ2 st2 H .rfl s2 R2.S i
      by_cases hlt : i < vs.length
      · have hd : vs.drop i = vs[i] :: vs.drop (i + 1) := List.drop_eq_getElem_cons hlt
        obtain ⟨g1, g2⟩ := oki.1 vs[i] (by simp [hlt])
        rw [hd, forL_cons] at h2
        refine .inr ⟨g1, fun σ' H' => ∃ ρ e st, Stp ρ1 st1 H1 ρ st H' ∧ Rel C.K O ρ σ' H' e st ∧ EndS C.K W O ρ st H' (forL fk fb (vs.drop (i + 1)) e st) D, fun σ' H' q => ⟨vs.length - (i + 1), by omega, rfl, q⟩, fun x H' y => ?_⟩
        obtain ⟨t1, t2, t3⟩ := g2 x H' y
        have t0 := s2.trans S1 R2.S t1
        exact turn_ok (go := fun e s => forL fk fb (vs.drop (i + 1)) e s) (R2.go t1 t2) t3 (h2.later R2.S t2 t1) fun ρ' σ' H' e' s' u1 u2 u3 => ⟨ρ', e', s', t0.trans S1 t2 u1, u2, u3⟩
      · refine .inl ⟨oki.2 (by omega), ?_⟩
        rw [List.drop_eq_nil_of_le (by omega), forL_nil] at h2
        exact h2 ρ2 σ H .rfl R2
    | inr n =>
      obtain ⟨hn, rfl⟩ : n < st1.length ∧ J = Itl C.K (ρ1 n) := r1
      refine ⟨fun i m σ H => ∃ ρ e st, Stp ρ1 st1 H1 ρ st H ∧ Rel C.K O ρ σ H e st ∧ EndS C.K W O ρ st H (forR fk fb n m i e st) D, ⟨bigN, ρ1, e, st1, .rfl, R1, h1⟩, ?_⟩
      rintro i m σ H ⟨ρ2, e2, st2, s2, R2, h2⟩
      cases m with
      | zero => exact h2.elim
      | succ m =>
        have hn2 : n < st2.length := Nat.lt_of_lt_of_le hn s2.le
        obtain ⟨w, f1, f2⟩ := R2.S.ob n st2[n] (by simp [hn2])
        rw [s2.ag n hn] at f1
        simp only [forR] at h2
        have step : ∀ (v : Vl) (vs : List V) (u : V), w = .lst vs → vs[i]? = some u → Rep C.K O ρ2 st2 H v u → EndS C.K W O ρ2 st2 H (match fk v e2 st2 with
            | .nx e s => match fb e s with
              | .nx e s => forR fk fb n m (i + 1) e s
              | .ct e s => forR fk fb n m (i + 1) e s
              | .bk e s => .nx e s
              | x => x
            | _ => .no) D → ((Itl C.K (ρ1 n)).stop i H ∧ D.nx σ H) ∨ ((Itl C.K (ρ1 n)).go i H ∧ ∃ N : Sg → Hp → Prop, (∀ σ' H', N σ' H' → ∃ m', m' < m + 1 ∧ ∃ ρ e st, Stp ρ1 st1 H1 ρ st H' ∧ Rel C.K O ρ σ' H' e st ∧ EndS C.K W O ρ st H' (forR fk fb n m' (i + 1) e st) D) ∧
              ∀ x H', (Itl C.K (ρ1 n)).yld i H x H' → TrG C.K W fk x σ H' fun σ2 H2 => TrS C.K W fb { D with nx := N, ct := N, bk := D.nx } σ2 H2) := by
          intro v vs u e1 e2' rv h3
          subst e1
          refine .inr ⟨⟨vs, u, .of f1, e2'⟩, fun σ' H' => ∃ ρ e st, Stp ρ1 st1 H1 ρ st H' ∧ Rel C.K O ρ σ' H' e st ∧ EndS C.K W O ρ st H' (forR fk fb n m (i + 1) e st) D, fun σ' H' q => ⟨m, Nat.lt_succ_self _, q⟩, fun x H' ⟨y1, y2⟩ => ?_⟩
          subst y1
          have := y2 vs (.of f1)
          rw [e2'] at this
          cases this
          exact turn_ok (go := fun e s => forR fk fb n m (i + 1) e s) R2 rv h3 fun ρ' σ' H' e' s' u1 u2 u3 => ⟨ρ', e', s', s2.trans S1 R2.S u1, u2, u3⟩
        have ends : ∀ (vs : List V), w = .lst vs → vs[i]? = none → EndS C.K W O ρ2 st2 H (.nx e2 st2) D → ((Itl C.K (ρ1 n)).stop i H ∧ D.nx σ H) := by
          intro vs e1 e2' h3
          subst e1
          exact ⟨⟨vs, .of f1, List.getElem?_eq_none_iff.mp e2'⟩, h3 ρ2 σ H .rfl R2⟩
        have hq : st2[n]? = some st2[n] := by simp [hn2]
        rw [hq] at h2
        cases q : st2[n] with
        | lp z xs =>
          rw [q] at f2 h2
          obtain ⟨vs, e1, r⟩ := f2
          dsimp only at h2
          cases qx : xs[i]? with
          | some d =>
            rw [qx] at h2
            obtain ⟨u, h3, h4⟩ := r.get qx
            exact step (.p d) vs u e1 h3 h4 h2
          | none =>
            rw [qx] at h2
            exact .inl (ends vs e1 (r.none_of qx) h2)
        | lr xs =>
          rw [q] at f2 h2
          obtain ⟨e1, r⟩ := f2
          dsimp only at h2
          cases qx : xs[i]? with
          | some d =>
            rw [qx] at h2
            exact step (.r d) _ _ e1 (by simp [qx]) ⟨r d (List.mem_of_getElem? qx), rfl⟩ h2
          | none =>
            rw [qx] at h2
            exact .inl (ends _ e1 (by simp [qx]) h2)
        | dp z kvs => rw [q] at h2; exact h2.elim
        | no => rw [q] at f2; exact f2.elim⟩
theorem sWhile {body : List Stmt} {fc : En → Sr → R Bool} {fb : En → Sr → X} (hp : PassesOwn (model C.prog C.w) C.A C.env C.xe) (hc : PT C c (TrT C.K W fc)) (hb : PSs C body (TrS C.K W fb)) : PS C (.While c body [] pos) (TrS C.K W (whC fc fb)) :=
  imS (L2.ps_while hp hc hb) fun D σ H ⟨O, ρ, e, st, R, h⟩ => by
    unfold whC at h
    split at h
    · rename_i hex
      refine ⟨fun m σ H => ∃ ρ e st, Rel C.K O ρ σ H e st ∧ EndS C.K W O ρ st H (whN fc fb m e st) D, ⟨hex.choose, ρ, e, st, R, h⟩, ?_⟩
      rintro m σ H ⟨ρ2, e2, st2, R2, h2⟩
      cases m with
      | zero => exact h2.elim
      | succ m =>
        refine ⟨O, ρ2, e2, st2, R2, ?_⟩
        simp only [whN] at h2
        cases q : fc e2 st2 with
        | no => rw [q] at h2; exact h2.elim
        | ex a x s' => rw [q] at h2; exact h2
        | ok k s' =>
          rw [q] at h2
          intro ρ3 H3 k' s3 S3 rk
          cases (show k = k' from rk)
          have h3 := h2.later R2.S S3 s3
          cases k with
          | false => exact h3 ρ3 σ H3 .rfl (R2.go s3 S3)
          | true =>
            refine ⟨fun σ' H' => ∃ ρ e st, Rel C.K O ρ σ' H' e st ∧ EndS C.K W O ρ st H' (whN fc fb m e st) D, fun σ' H' q => ⟨m, Nat.lt_succ_self _, q⟩, O, ρ3, e2, s', R2.go s3 S3, ?_⟩
            dsimp only at h3
            cases q2 : fb e2 s' with
            | nx e4 s4 => rw [q2] at h3; exact fun ρ' σ' H' t R' => ⟨ρ', e4, s4, R', EndS.later (show EndS C.K W O ρ3 s' H3 (whN fc fb m e4 s4) D from h3) S3 R'.S t⟩
            | ct e4 s4 => rw [q2] at h3; exact fun ρ' σ' H' t R' => ⟨ρ', e4, s4, R', EndS.later (show EndS C.K W O ρ3 s' H3 (whN fc fb m e4 s4) D from h3) S3 R'.S t⟩
            | bk e4 s4 => rw [q2] at h3; exact h3
            | rt a s4 => rw [q2] at h3; exact h3
            | ex a x s4 => rw [q2] at h3; exact h3
            | no => rw [q2] at h3; exact h3.elim
    · exact h.elim
end
end Mi
end
section
set_option Elab.async false
set_option linter.all false
set_option maxRecDepth 100000
set_option maxHeartbeats 1000000
/-! M13: list comprehensions. -/
namespace Mi
open PySem
open L2 (V HO Hp upd upd_same upd_ne SqL SqT Rd Cx Inv PE PT PA PS PSs PG PGs PI TE TT TA TS TG TGs TI It VK XK Ends RelV Vals ne_of_none OpR R2 EP CallR UnR IxR SlR TruR Gl Vis Loc Itl Itt Itr wipe)
/-! ### targets that are names -/
mutual
def gE (K : Fg) : T → TG
  | .v i _ _ => L2.gName i
  | .tup a _ _ => L2.gTup K (cnt a) (gEs K a)
  | _ => fun _ _ _ _ => False
def gEs (K : Fg) : T → TGs
  | .nil => L2.gNil
  | .cons a b => L2.gCons (gE K a) (gEs K b)
  | _ => fun _ _ _ _ => False
end
mutual
/-- a target of names whose slots are among vs -/
def nmT (vs : List Nat) : T → Bool
  | .v i _ _ => vs.contains i
  | .tup a _ _ => nmTs vs a
  | _ => false
def nmTs (vs : List Nat) : T → Bool
  | .nil => true
  | .cons a b => nmT vs a && nmTs vs b
  | _ => false
end
theorem wipe_get (σ : Sg) : ∀ (vs : List Nat) (k : Nat), (wipe σ vs)[k]? = if k ∈ vs ∧ k < σ.length then some none else σ[k]?
  | [], k => by simp [wipe]
  | v :: vs, k => by
    unfold wipe
    have hl := L2.wipe_length σ vs
    by_cases h : v = k
    · subst h
      by_cases hk : v < σ.length
      · rw [List.getElem?_set_self (by rw [hl]; exact hk)]
        simp [hk]
      · rw [List.getElem?_eq_none (by simp [hl]; omega), if_neg (by simp [hk]), List.getElem?_eq_none (by omega)]
    · rw [List.getElem?_set_ne h, wipe_get σ vs k]
      simp [Ne.symm h]
theorem wipe_wipe (σ : Sg) (vs : List Nat) : wipe (wipe σ vs) vs = wipe σ vs := by
  apply List.ext_getElem?
  intro k
  rw [wipe_get, wipe_get, L2.wipe_length]
  by_cases h : k ∈ vs ∧ k < σ.length
  · simp [h]
  · simp [h]
theorem wipe_set (σ : Sg) (vs : List Nat) {i : Nat} (hi : i ∈ vs) (x : Option V) : wipe (σ.set i x) vs = wipe σ vs := by
  apply List.ext_getElem?
  intro k
  rw [wipe_get, wipe_get, List.length_set]
  by_cases h : k ∈ vs ∧ k < σ.length
  · simp [h]
  · rw [if_neg h, if_neg h]
    by_cases hk : i = k
    · subst hk
      have : ¬ i < σ.length := fun z => h ⟨hi, z⟩
      rw [List.getElem?_eq_none (by simp; omega), List.getElem?_eq_none (by omega)]
    · rw [List.getElem?_set_ne hk]
theorem wipeE_len (e : En) : ∀ vs : List Nat, (wipeE e vs).length = e.length
  | [] => rfl
  | v :: vs => by unfold wipeE; rw [List.length_set, wipeE_len e vs]
theorem wipeE_get (e : En) : ∀ (vs : List Nat) (k : Nat), (wipeE e vs)[k]? = if k ∈ vs ∧ k < e.length then some none else e[k]?
  | [], k => by simp [wipeE]
  | v :: vs, k => by
    unfold wipeE
    have hl := wipeE_len e vs
    by_cases h : v = k
    · subst h
      by_cases hk : v < e.length
      · rw [List.getElem?_set_self (by rw [hl]; exact hk)]
        simp [hk]
      · rw [List.getElem?_eq_none (by simp [hl]; omega), if_neg (by simp [hk]), List.getElem?_eq_none (by omega)]
    · rw [List.getElem?_set_ne h, wipeE_get e vs k]
      simp [Ne.symm h]
section
variable {K : Fg} {O : Addr → Prop} {ρ : Nat → Addr} {σ : Sg} {H : Hp} {e : En} {st : Sr}
theorem RelE.wipe (E : RelE K O ρ σ H e st) (vs : List Nat) : RelE K O ρ (L2.wipe σ vs) H (wipeE e vs) st := by
  refine ⟨by rw [L2.wipe_length, wipeE_len, E.ln], fun i x h => ?_⟩
  rw [wipeE_get] at h
  split at h
  · cases h
  · rename_i q
    obtain ⟨v, h1, h2⟩ := E.sl i x h
    refine ⟨v, ?_, h2⟩
    rw [wipe_get, if_neg (by rw [E.ln]; exact q)]
    exact h1
mutual
theorem gE_st (gl : List P) (F : Nat → List Vl → Sr → R Vl) (vs : List Nat) : ∀ (t : T) (e e' : En) (st st' : Sr) (w : Vl), nmT vs t = true → (sem gl F t).k w e st = .nx e' st' → st' = st
  | .v i x p, e, e', st, st', w, hn, h => by
    have h' : X.nx (e.set i (some w)) st = .nx e' st' := h
    cases h'
    rfl
  | .tup a k p, e, e', st, st', w, hn, h => by
    have h' : kTup (cnt a) (sem gl F a) w e st = .nx e' st' := h
    unfold kTup at h'
    split at h'
    · rename_i xs _
      split at h'
      · exact (gEs_st gl F vs a e e' st st' xs hn h').1
      · cases h'
    · cases h'
theorem gEs_st (gl : List P) (F : Nat → List Vl → Sr → R Vl) (vs : List Nat) : ∀ (t : T) (e e' : En) (st st' : Sr) (ws : List Vl), nmTs vs t = true → (sem gl F t).ks ws e st = .nx e' st' → st' = st ∧ ws.length = cnt t
  | .nil, e, e', st, st', ws, hn, h => by
    have h' : ksNil ws e st = .nx e' st' := h
    unfold ksNil at h'
    split at h'
    · cases h'; exact ⟨rfl, rfl⟩
    · cases h'
  | .cons a b, e, e', st, st', ws, hn, h => by
    have h' : ksCons (sem gl F a) (sem gl F b) ws e st = .nx e' st' := h
    have hn' : nmT vs a = true ∧ nmTs vs b = true := by simpa [nmTs] using hn
    unfold ksCons at h'
    split at h'
    · rename_i w ws
      cases q : (sem gl F a).k w e st with
      | nx e1 s1 =>
        rw [q] at h'
        have e0 := gE_st gl F vs a e e1 st s1 w hn'.1 q
        have e2 := gEs_st gl F vs b e1 e' s1 st' ws hn'.2 h'
        exact ⟨e2.1.trans e0, by simp [e2.2, cnt]⟩
      | _ => rw [q] at h'; cases h'
    · cases h'
end
mutual
theorem gE_ok (gl : List P) (F : Nat → List Vl → Sr → R Vl) (vs : List Nat) {Q : Sg → Hp → Prop} : ∀ (t : T) (σ : Sg) (e e' : En) (w : Vl) (v : V), nmT vs t = true → RelE K O ρ σ H e st → Rep K O ρ st H w v → (sem gl F t).k w e st = .nx e' st →
    (∀ σ', RelE K O ρ σ' H e' st → L2.wipe σ' vs = L2.wipe σ vs → Q σ' H) → gE K t v σ H Q
  | .v i x p, σ, e, e', w, v, hn, E, r, h, q => by
    have h' : X.nx (e.set i (some w)) st = .nx e' st := h
    cases h'
    show Q (σ.set i (some v)) H
    exact q _ (E.set r i) (wipe_set σ vs (by simpa [nmT] using hn) _)
  | .tup a k p, σ, e, e', w, v, hn, E, r, h, q => by
    have h' : kTup (cnt a) (sem gl F a) w e st = .nx e' st := h
    unfold kTup at h'
    cases w with
    | r m => cases h'
    | p d =>
      cases d with
      | tuple xs =>
        obtain ⟨t, us, rfl, l, rr⟩ := RepP.tup_inv r
        have hk : (sem gl F a).ks (xs.map .p) e st = .nx e' st := by
          have h2 : (if (xs.map Vl.p).length = cnt a then (sem gl F a).ks (xs.map .p) e st else .no) = .nx e' st := h'
          split at h2
          · exact h2
          · cases h2
        refine ⟨t, us, rfl, l, ?_, gEs_ok gl F vs a σ e e' (xs.map .p) us hn E rr.reps hk q⟩
        have := (gEs_st gl F vs a e e' st st _ hn hk).2
        rw [← rr.len, ← this]
        simp
      | _ => cases h'
theorem gEs_ok (gl : List P) (F : Nat → List Vl → Sr → R Vl) (vs : List Nat) {Q : Sg → Hp → Prop} : ∀ (t : T) (σ : Sg) (e e' : En) (ws : List Vl) (us : List V), nmTs vs t = true → RelE K O ρ σ H e st → Reps K O ρ st H ws us → (sem gl F t).ks ws e st = .nx e' st →
    (∀ σ', RelE K O ρ σ' H e' st → L2.wipe σ' vs = L2.wipe σ vs → Q σ' H) → gEs K t us σ H Q
  | .nil, σ, e, e', ws, us, hn, E, r, h, q => by
    have h' : ksNil ws e st = .nx e' st := h
    cases r with
    | nil => cases h'; exact ⟨rfl, q _ E rfl⟩
    | cons _ _ => cases h'
  | .cons a b, σ, e, e', ws, us, hn, E, r, h, Qf => by
    have h' : ksCons (sem gl F a) (sem gl F b) ws e st = .nx e' st := h
    have hn' : nmT vs a = true ∧ nmTs vs b = true := by simpa [nmTs] using hn
    cases r with
    | nil => cases h'
    | @cons w ws v us r rs =>
      have h2 : ((sem gl F a).k w e st).th (fun e s => (sem gl F b).ks ws e s) = .nx e' st := h'
      cases q : (sem gl F a).k w e st with
      | nx e1 s1 =>
        rw [q] at h2
        have h3 : (sem gl F b).ks ws e1 s1 = .nx e' st := h2
        have e0 := (gE_st gl F vs a e e1 st s1 w hn'.1 q).symm
        subst e0
        refine ⟨v, us, rfl, gE_ok gl F vs a σ e e1 w v hn'.1 E r q fun σ1 E1 w1 => ?_⟩
        exact gEs_ok gl F vs b σ1 e1 e' ws us hn'.2 E1 rs h3 fun σ' E' w' => Qf σ' E' (w'.trans w1)
      | _ => rw [q] at h2; cases h2
end
end
/-! ### a list that is being made -/
section
variable {K : Fg} {O O' : Addr → Prop} {ρ ρ1 : Nat → Addr} {σ : Sg} {H H1 : Hp} {e : En} {st st1 : Sr} {D : Addr} {acc us : List V}
/-- what is being made -/
def Made : HO → Prop
  | .lst _ => True
  | .dK _ => True
  | _ => False
theorem LsD.ownO {hu : HO} (hO : O D) {a : Addr} {vs : List V} (h : LsD K (Mt O ρ st) H a vs) : LsD K (Mt O ρ st) (L2.upd H D hu) a vs := by
  rcases h with ⟨h, n⟩ | h
  · have : a ≠ D := fun z => n (.inl (z ▸ hO))
    refine .inl ⟨?_, n⟩
    unfold L2.Rd
    rw [upd_ne this]
    exact h
  · exact .inr h
theorem RepP.ownO {ho hu : HO} (hO : O D) (hD : H D = some ho) (hm : Made ho) {d : P} {v : V} (h : RepP K (Mt O ρ st) H d v) : RepP K (Mt O ρ st) (L2.upd H D hu) d v :=
  h.mono (fun _ _ q => q.ownO hO) fun a vs q => by
    rcases q with q | q
    · have : a ≠ D := fun z => by
        subst z
        rcases q with q | ⟨o, q⟩ <;> (rw [hD] at q; cases q; exact hm)
      refine .inl ?_
      unfold L2.Rd
      rw [upd_ne this]
      exact q
    · exact .inr q
theorem ReqP.ownO {ho hu : HO} (hO : O D) (hD : H D = some ho) (hm : Made ho) : ∀ {d : List P} {v : List V}, ReqP K (Mt O ρ st) H d v → ReqP K (Mt O ρ st) (L2.upd H D hu) d v
  | _, _, .nil => .nil
  | _, _, .cons h r => .cons (h.ownO hO hD hm) (ReqP.ownO hO hD hm r)
theorem RelS.ownO {ho hu : HO} (S : RelS K O ρ H st) (hO : O D) (hD : H D = some ho) (hm : Made ho) : RelS K O ρ (L2.upd H D hu) st := by
  refine ⟨fun n o h => ?_, S.inj, S.out, fun a ha => ?_⟩
  · obtain ⟨u, e1, e2⟩ := S.ob n o h
    have : ρ n ≠ D := fun z => S.out n (List.getElem?_eq_some_iff.mp h).1 (z ▸ hO)
    refine ⟨u, by rw [upd_ne this]; exact e1, ?_⟩
    cases o with
    | lp z xs => obtain ⟨vs, rfl, r⟩ := e2; exact ⟨vs, rfl, r.ownO hO hD hm⟩
    | lr ns => exact e2
    | dp z kvs => obtain ⟨ks, q, r⟩ := e2; exact ⟨ks, q, r.map fun h => h.ownO hO hD hm⟩
    | no => exact e2.elim
  · by_cases q : a = D
    · subst q; rw [upd_same]; simp
    · rw [upd_ne q]; exact S.al a ha
theorem LsD.own (hO : O D) {a : Addr} {vs : List V} (h : LsD K (Mt O ρ st) H a vs) : LsD K (Mt O ρ st) (L2.upd H D (.lst us)) a vs := h.ownO hO
theorem RepP.own (hO : O D) (hD : H D = some (.lst acc)) {d : P} {v : V} (h : RepP K (Mt O ρ st) H d v) : RepP K (Mt O ρ st) (L2.upd H D (.lst us)) d v := h.ownO hO hD trivial
theorem ReqP.own (hO : O D) (hD : H D = some (.lst acc)) {d : List P} {v : List V} (h : ReqP K (Mt O ρ st) H d v) : ReqP K (Mt O ρ st) (L2.upd H D (.lst us)) d v := h.ownO hO hD trivial
theorem RelS.own (S : RelS K O ρ H st) (hO : O D) (hD : H D = some (.lst acc)) : RelS K O ρ (L2.upd H D (.lst us)) st := S.ownO hO hD trivial
theorem Stp.own (s : Stp ρ1 st1 H1 ρ st H) (hD : H1 D = none) {h : HO} : Stp ρ1 st1 H1 ρ st (L2.upd H D h) :=
  ⟨s.le, s.ag, s.lv, fun a o e n t => by rw [upd_ne (ne_of_none e hD)]; exact s.kp a o e n t, s.lr, fun a ps e => by rw [upd_ne (ne_of_none e hD)]; exact s.tb a ps e, s.lp, s.dp⟩
/-- an owned place becomes one of the store -/
theorem adoptO {ob : Ob} {ho : HO} (S : RelS K O' ρ H st) (hO : ∀ a, O a → O' a) (hO' : ∀ a, O' a → O a ∨ a = D) (hD : O' D) (np : ¬ O D) (hp : H D = some ho)
    (r : (∀ a, H a ≠ none → Mt O (ext ρ st.length D) (st ++ [ob]) a → Mt O' ρ st a) → RepOb K O (ext ρ st.length D) (st ++ [ob]) H ob ho) : RelS K O (ext ρ st.length D) H (st ++ [ob]) := by
  have mt : ∀ a, H a ≠ none → Mt O (ext ρ st.length D) (st ++ [ob]) a → Mt O' ρ st a := fun a _ q => by
    rcases q with q | ⟨n, o, h1, h2, h3⟩
    · exact .inl (hO a q)
    · by_cases hn : n = st.length
      · subst hn
        rw [ext_same] at h3
        exact .inl (h3 ▸ hD)
      · have lt : n < st.length := by
          have := (List.getElem?_eq_some_iff.mp h1).1
          simp at this; omega
        rw [List.getElem?_append_left lt] at h1
        rw [ext_ne hn] at h3
        exact .inr ⟨n, o, h1, h2, h3⟩
  refine ⟨fun n o e => ?_, fun n k hn hk q => ?_, fun n hn => ?_, fun a ha => S.al a (hO a ha)⟩
  · by_cases hn : n = st.length
    · subst hn
      rw [List.getElem?_append_right (Nat.le_refl _)] at e
      simp at e
      subst e
      exact ⟨_, by rw [ext_same]; exact hp, r mt⟩
    · have lt : n < st.length := by
        have := (List.getElem?_eq_some_iff.mp e).1
        simp at this; omega
      rw [List.getElem?_append_left lt] at e
      obtain ⟨u, e1, e2⟩ := S.ob n o e
      refine ⟨u, by rw [ext_ne hn]; exact e1, ?_⟩
      cases o with
      | lp z xs => obtain ⟨ws, rfl, r⟩ := e2; exact ⟨ws, rfl, r.oth mt⟩
      | lr ns =>
        obtain ⟨e2, e3⟩ := e2
        refine ⟨?_, fun n hn => by have := e3 n hn; simp; omega⟩
        rw [e2]
        congr 1
        refine List.map_congr_left fun n hn => ?_
        rw [ext_ne (Nat.ne_of_lt (e3 n hn))]
      | dp z kvs => obtain ⟨ks, q, r⟩ := e2; exact ⟨ks, q, r.map fun h => h.oth mt⟩
      | no => exact e2.elim
  · have old : ∀ n, n < st.length → ρ n ≠ D := fun n hn z => S.out n hn (z ▸ hD)
    simp only [List.length_append, List.length_cons, List.length_nil] at hn hk
    by_cases h1 : n = st.length <;> by_cases h2 : k = st.length
    · omega
    · subst h1
      rw [ext_same, ext_ne h2] at q
      exact absurd q.symm (old k (by omega))
    · subst h2
      rw [ext_same, ext_ne h1] at q
      exact absurd q (old n (by omega))
    · rw [ext_ne h1, ext_ne h2] at q
      exact S.inj n k (by omega) (by omega) q
  · simp only [List.length_append, List.length_cons, List.length_nil] at hn
    by_cases h1 : n = st.length
    · subst h1
      rw [ext_same]
      exact np
    · rw [ext_ne h1]
      exact fun z => S.out n (by omega) (hO _ z)
theorem adopt {xs : List P} {vs : List V} (S : RelS K O' ρ H st) (hO : ∀ a, O a → O' a) (hO' : ∀ a, O' a → O a ∨ a = D) (hD : O' D) (np : ¬ O D) (hp : H D = some (.lst vs)) (r : ReqP K (Mt O' ρ st) H xs vs) : RelS K O (ext ρ st.length D) H (st ++ [.lp 0 xs]) :=
  adoptO S hO hO' hD np hp fun mt => ⟨vs, rfl, r.oth mt⟩
theorem adoptD {xs : List (P × P)} {ks : List (L2.Key × V)} (S : RelS K O' ρ H st) (hO : ∀ a, O a → O' a) (hO' : ∀ a, O' a → O a ∨ a = D) (hD : O' D) (np : ¬ O D) (hp : H D = some (.dK ks)) (r : KReq K (Mt O' ρ st) H xs ks) : RelS K O (ext ρ st.length D) H (st ++ [.dp 0 xs]) :=
  adoptO S hO hO' hD np hp fun mt => ⟨ks, .inl ⟨rfl, rfl⟩, r.map fun h => h.oth mt⟩
theorem Stp.adopt (s : Stp ρ1 st1 H1 ρ st H) (hD : H1 D = none) {o : Ob} : Stp ρ1 st1 H1 (ext ρ st.length D) (st ++ [o]) H := by
  refine ⟨by have := s.le; simp; omega, fun n hn => ?_, fun a ⟨n, u, h1, h2, h3⟩ => ?_, s.kp, fun n ns e => ?_, s.tb, fun n z xs e => ?_, fun n z xs e => ?_⟩
  · have := s.le
    rw [ext_ne (by omega)]
    exact s.ag n hn
  · by_cases hn : n = st.length
    · subst hn
      rw [ext_same] at h3
      subst h3
      exact .inr hD
    · have lt : n < st.length := by
        have := (List.getElem?_eq_some_iff.mp h1).1
        simp at this; omega
      rw [List.getElem?_append_left lt] at h1
      rw [ext_ne hn] at h3
      exact s.lv a ⟨n, u, h1, h2, h3⟩
  · obtain ⟨ns', h⟩ := s.lr n ns e
    exact ⟨ns', by rw [List.getElem?_append_left (List.getElem?_eq_some_iff.mp h).1]; exact h⟩
  · obtain ⟨z', xs', h⟩ := s.lp n z xs e
    exact ⟨z', xs', by rw [List.getElem?_append_left (List.getElem?_eq_some_iff.mp h).1]; exact h⟩
  · obtain ⟨z', xs', h⟩ := s.dp n z xs e
    exact ⟨z', xs', by rw [List.getElem?_append_left (List.getElem?_eq_some_iff.mp h).1]; exact h⟩
/-- fewer owned places -/
theorem RelS.less (S : RelS K O' ρ H st) (hO : ∀ a, O a → O' a) : RelS K O ρ H st := by
  refine ⟨fun n o h => ?_, S.inj, fun n h q => S.out n h (hO _ q), fun a h => S.al a (hO a h)⟩
  obtain ⟨u, e1, e2⟩ := S.ob n o h
  refine ⟨u, e1, ?_⟩
  cases o with
  | lp z xs => obtain ⟨vs, rfl, r⟩ := e2; exact ⟨vs, rfl, r.oth fun a _ q => q.elim (fun q => .inl (hO a q)) .inr⟩
  | lr ns => exact e2
  | dp z kvs => obtain ⟨ks, q, r⟩ := e2; exact ⟨ks, q, r.map fun h => h.oth fun a _ q => q.elim (fun q => .inl (hO a q)) .inr⟩
  | no => exact e2.elim
end
end Mi
end
section
set_option Elab.async false
set_option linter.all false
set_option maxRecDepth 100000
set_option maxHeartbeats 1000000
/-! M14: list comprehensions as values. -/
namespace Mi
open PySem
open L2 (V HO Hp upd upd_same upd_ne SqL SqT Rd Cx Inv PE PT PA PS PSs PG PGs PI TE TT TA TS TG TGs TI It VK XK Ends RelV Vals ne_of_none OpR R2 EP CallR UnR IxR SlR TruR Gl Vis Loc Itl Itt Itr wipe)
abbrev W0 : Nat → Option Addr → Hp → Prop := fun _ _ _ => False
theorem cpL_ok {tg : Vl → En → Sr → X} {cond : En → Sr → R Bool} {elt : En → Sr → R Vl} {e : En} : ∀ (vs : List Vl) (s : Sr), (∃ xs s', cpL tg cond elt e vs s = .ok xs s') ∨ cpL tg cond elt e vs s = .no
  | [], s => .inl ⟨[], s, rfl⟩
  | v :: r, s => by
    simp only [cpL]
    split
    · rename_i e1 s1 _
      split
      · rename_i s2 _
        split
        · rename_i w s3 _
          split
          · rename_i x s4 _
            split
            · exact .inl ⟨_, _, rfl⟩
            · exact .inr rfl
          · exact .inr rfl
        · exact .inr rfl
      · rename_i s2 _
        exact cpL_ok r s2
      · exact .inr rfl
    · exact .inr rfl
/-- one turn, by the value that comes: what the rest gives -/
def cpT (tg : Vl → En → Sr → X) (cond : En → Sr → R Bool) (elt : En → Sr → R Vl) (e : En) (v : Vl) (s : Sr) (rest : Sr → R (List P)) : R (List P) := match tg v e s with
    | .nx e' s => match cond e' s with
      | .ok true s => match elt e' s with
        | .ok w s => match toP w s with
          | some (x, s) => match rest s with
            | .ok xs s => .ok (x :: xs) s
            | _ => .no
          | none => .no
        | _ => .no
      | .ok false s => rest s
      | _ => .no
    | _ => .no
theorem cpL_cons {tg : Vl → En → Sr → X} {cond : En → Sr → R Bool} {elt : En → Sr → R Vl} {e : En} {v : Vl} {r : List Vl} {s : Sr} : cpL tg cond elt e (v :: r) s = cpT tg cond elt e v s (cpL tg cond elt e r) := rfl
theorem cpR_succ {tg : Vl → En → Sr → X} {cond : En → Sr → R Bool} {elt : En → Sr → R Vl} {n : Nat} {e : En} {k i : Nat} {s : Sr} : cpR tg cond elt n e (k + 1) i s = match s[n]? with
    | some (.lp _ xs) => match xs[i]? with
      | some x => cpT tg cond elt e (.p x) s (cpR tg cond elt n e k (i + 1))
      | none => .ok [] s
    | some (.lr xs) => match xs[i]? with
      | some m => cpT tg cond elt e (.r m) s (cpR tg cond elt n e k (i + 1))
      | none => .ok [] s
    | _ => .no := rfl
section
variable {C : Cx} {W : Nat → Option Addr → Hp → Prop} {fi : En → Sr → R (List Vl ⊕ Nat)} {gl : List P} {F : Nat → List Vl → Sr → R Vl} {tg cond elt : T}
/-- a turn of the block -/
theorem cp_turn {O' : Addr → Prop} {ρ1 ρ2 : Nat → Addr} {st1 st2 : Sr} {H1 H : Hp} {σ : Sg} {e : En} {v : Vl} {x : V} {D : Addr} {acc : List V} {accP : List P} {rest : Sr → R (List P)} {xs : List P} {s'' : Sr} {vs : List Nat} {N : Hp → Prop}
    (hn : nmT vs tg = true) (S1 : ∀ a, H1 a = none → a ≠ D → True) (s2 : Stp ρ1 st1 H1 ρ2 st2 H) (S2 : RelS C.K O' ρ2 H st2) (S1' : RelS C.K (fun _ => False) ρ1 H1 st1) (E2 : RelE C.K O' ρ2 (wipe σ vs) H (wipeE e vs) st2) (hO : O' D) (h1D : H1 D = none) (hD : H D = some (.lst acc)) (hz : acc.length < sizeLine)
    (ra : ReqP C.K (Mt O' ρ2 st2) H accP acc) (rv : Rep C.K O' ρ2 st2 H v x)
    (h : cpT (sem gl F tg).k (cnd (sem gl F cond)) (sem gl F elt).e (wipeE e vs) v st2 rest = .ok xs s'')
    (hN : ∀ ρ3 st3 H3 acc3 accP3 ys, Stp ρ1 st1 H1 ρ3 st3 H3 → RelS C.K O' ρ3 H3 st3 → RelE C.K O' ρ3 (wipe σ vs) H3 (wipeE e vs) st3 → H3 D = some (.lst acc3) → acc3.length ≤ acc.length + 1 → ReqP C.K (Mt O' ρ3 st3) H3 accP3 acc3 → rest st3 = .ok ys s'' → accP3 ++ ys = accP ++ xs → N H3) :
    gE C.K tg x (wipe σ vs) H fun σ2 H2 => wipe σ2 vs = wipe σ vs ∧ TrT C.K W0 (cnd (sem gl F cond)) σ2 H2 fun b H3 =>
      if b = true then TrE C.K W0 (sem gl F elt).e σ2 H3 fun y H4 => ∃ acc, H4 D = some (.lst acc) ∧ acc.length < sizeLine ∧ N (upd H4 D (.lst (acc ++ [y]))) else N H3 := by
  unfold cpT at h
  cases q : (sem gl F tg).k v (wipeE e vs) st2 with
  | nx e1 s1 =>
    rw [q] at h
    have e0 := (gE_st gl F vs tg _ e1 st2 s1 v hn q).symm
    subst e0
    dsimp only at h
    refine gE_ok gl F vs tg (wipe σ vs) _ e1 v x hn E2 rv q fun σ' E' w' => ⟨by rw [w', wipe_wipe], ?_⟩
    have R' : Rel C.K O' ρ2 σ' H e1 st2 := ⟨S2, E'⟩
    refine ⟨O', ρ2, e1, st2, R', ?_⟩
    cases qc : cnd (sem gl F cond) e1 st2 with
    | ok b s3 =>
      rw [qc] at h
      intro ρ3 H3 b' t3 S3 rb
      cases (show b = b' from rb)
      have R3 := R'.go t3 S3
      have nl : ∀ {ρ : Nat → Addr} {st : Sr} {H : Hp}, RelS C.K O' ρ H st → ¬ live ρ st D := fun S ⟨n, o, q1, q2, q3⟩ => S.out n (List.getElem?_eq_some_iff.mp q1).1 (q3 ▸ hO)
      have hD3 : H3 D = some (.lst acc) := t3.kp D _ hD (nl S2) fun ps z => nomatch z
      have u3 := s2.trans S1' (S2.less fun _ z => z.elim) t3
      cases b with
      | false => exact hN ρ3 s3 H3 acc accP xs u3 S3 (E2.stp S2 t3) hD3 (Nat.le_succ _) (ra.stp S2 t3) h rfl
      | true =>
        dsimp only at h
        refine ⟨O', ρ3, e1, s3, R3, ?_⟩
        cases qe : (sem gl F elt).e e1 s3 with
        | ok w s4 =>
          rw [qe] at h
          intro ρ4 H4 y t4 S4 ry
          dsimp only at h
          cases qp : toP w s4 with
          | none => rw [qp] at h; cases h
          | some pr =>
            obtain ⟨d, s5⟩ := pr
            rw [qp] at h
            dsimp only at h
            obtain ⟨a1, a2, a3⟩ := toP_ok S4 qp ry
            have hD4 : H4 D = some (.lst acc) := t4.kp D _ hD3 (nl S3) fun ps z => nomatch z
            have u4 := u3.trans S1' (S3.less fun _ z => z.elim) (t4.trans S3 S4 a1)
            cases qr : rest s5 with
            | ok ys s6 =>
              rw [qr] at h
              cases h
              refine ⟨acc, hD4, hz, hN ρ4 s5 _ (acc ++ [y]) (accP ++ [d]) ys (u4.own h1D) (a2.own hO hD4) ?_ upd_same (by simp) ?_ qr (by simp)⟩
              · have E4 := ((E2.stp S2 t3).stp S3 t4).stp S4 a1
                refine ⟨E4.ln, fun i x hx => ?_⟩
                obtain ⟨u, g1, g2⟩ := E4.sl i x hx
                refine ⟨u, g1, ?_⟩
                cases x with
                | p d => exact RepP.own hO hD4 g2
                | r n => exact g2
              · exact ReqP.own hO hD4 ((((ra.stp S2 t3).stp S3 t4).stp S4 a1).app (.cons a3 .nil))
            | ex a b c => rw [qr] at h; cases h
            | no => rw [qr] at h; cases h
        | ex a b c => rw [qe] at h; cases h
        | no => rw [qe] at h; cases h
    | ex a b c => rw [qc] at h; cases h
    | no => rw [qc] at h; cases h
  | _ => rw [q] at h; cases h
/-- the new list, handed out -/
theorem cp_end {O : Addr → Prop} {ρ1 ρ : Nat → Addr} {st1 st : Sr} {H1 H : Hp} {m : Bool} {accP : List P} {acc : List V} {D : Addr} {Q : VK} (S1 : RelS C.K O ρ1 H1 st1) (h : End C.K W O (RpV C.K O) ρ1 st1 H1 (mkLst m accP st) Q) (hD1 : H1 D = none) (s : Stp ρ1 st1 H1 ρ st H)
    (S : RelS C.K (fun a => O a ∨ a = D) ρ H st) (hD : H D = some (.lst acc)) (r : ReqP C.K (Mt (fun a => O a ∨ a = D) ρ st) H accP acc) : Q (.ref D) H := by
  have nO : ¬ O D := fun q => S1.al D q hD1
  unfold mkLst at h
  split at h
  · exact h _ H _ (s.adopt hD1) (adopt S (fun _ q => .inl q) (fun _ q => q) (.inr rfl) nO hD r) ⟨by simp, by rw [ext_same]⟩
  · have S' := S.less (O := O) fun _ q => .inl q
    refine h ρ H _ s S' (RepP.lst (.inl ⟨.inl hD, fun q => ?_⟩) (r.oth fun a _ q => q.elim (fun q => .inl (.inl q)) .inr))
    rcases q with q | ⟨n, o, q1, q2, q3⟩
    · exact nO q
    · exact S.out n (List.getElem?_eq_some_iff.mp q1).1 (.inr q3)
theorem RelS.newOwn {K : Fg} {O : Addr → Prop} {ρ : Nat → Addr} {H : Hp} {st : Sr} {D : Addr} {ho : HO} (S : RelS K O ρ H st) (hD : H D = none) : RelS K (fun a => O a ∨ a = D) ρ (L2.upd H D ho) st := by
  have wid : Wid O (fun a => O a ∨ a = D) H := fun a q => q.elim .inl fun q => .inr (q ▸ hD)
  refine ⟨fun n o e => ?_, S.inj, fun n hn q => ?_, fun a q => ?_⟩
  · obtain ⟨w, e1, e2⟩ := S.ob n o e
    refine ⟨w, by rw [upd_ne (ne_of_none e1 hD)]; exact e1, ?_⟩
    cases o with
    | lp z xs => obtain ⟨vs, rfl, r⟩ := e2; exact ⟨vs, rfl, r.go S wid (Stp.new S hD)⟩
    | lr ns => exact e2
    | dp z kvs => obtain ⟨ks, q, r⟩ := e2; exact ⟨ks, q, r.map fun h => h.go S wid (Stp.new S hD)⟩
    | no => exact e2.elim
  · rcases q with q | q
    · exact S.out n hn q
    · obtain ⟨w, e1, _⟩ := S.ob n st[n] (by simp [hn])
      rw [q, hD] at e1; cases e1
  · by_cases z : a = D
    · subst z; rw [upd_same]; simp
    · rw [upd_ne z]
      exact q.elim (S.al a) fun q => absurd q z
theorem RelE.newOwn {K : Fg} {O : Addr → Prop} {ρ : Nat → Addr} {σ : Sg} {H : Hp} {e : En} {st : Sr} {D : Addr} {ho : HO} (S : RelS K O ρ H st) (E : RelE K O ρ σ H e st) (hD : H D = none) : RelE K (fun a => O a ∨ a = D) ρ σ (L2.upd H D ho) e st := by
  have wid : Wid O (fun a => O a ∨ a = D) H := fun a q => q.elim .inl fun q => .inr (q ▸ hD)
  refine ⟨E.ln, fun i x h => ?_⟩
  obtain ⟨v, h1, h2⟩ := E.sl i x h
  refine ⟨v, h1, ?_⟩
  cases x with
  | p d => exact RepP.go S wid (Stp.new S hD) h2
  | r n => exact h2
theorem cpAll_inl {a b c : Sm} {e : En} {vs : List Vl} {s : Sr} (h : vs.length ≤ lim) : cpAll a b c e (.inl vs) s = cpL a.k (cnd b) c.e e vs s := by
  show (if vs.length ≤ lim then cpL a.k (cnd b) c.e e vs s else .no) = _
  exact if_pos h
theorem cpAll_no {a b c : Sm} {e : En} {vs : List Vl} {s : Sr} (h : ¬ vs.length ≤ lim) : cpAll a b c e (.inl vs) s = .no := by
  show (if vs.length ≤ lim then cpL a.k (cnd b) c.e e vs s else .no) = _
  exact if_neg h
theorem cpT_ok {tg : Vl → En → Sr → X} {cond : En → Sr → R Bool} {elt : En → Sr → R Vl} {e : En} {v : Vl} {s : Sr} {rest : Sr → R (List P)} (h : ∀ s, (∃ xs s', rest s = .ok xs s') ∨ rest s = .no) : (∃ xs s', cpT tg cond elt e v s rest = .ok xs s') ∨ cpT tg cond elt e v s rest = .no := by
  unfold cpT
  split
  · split
    · split
      · split
        · split
          · exact .inl ⟨_, _, rfl⟩
          · exact .inr rfl
        · exact .inr rfl
      · exact .inr rfl
    · exact h _
    · exact .inr rfl
  · exact .inr rfl
theorem cpR_ok {tg : Vl → En → Sr → X} {cond : En → Sr → R Bool} {elt : En → Sr → R Vl} {n : Nat} {e : En} : ∀ (k i : Nat) (s : Sr), (∃ xs s', cpR tg cond elt n e k i s = .ok xs s') ∨ cpR tg cond elt n e k i s = .no
  | 0, i, s => .inr rfl
  | k + 1, i, s => by
    rw [cpR_succ]
    split
    · split
      · exact cpT_ok (cpR_ok k (i + 1))
      · exact .inl ⟨_, _, rfl⟩
    · split
      · exact cpT_ok (cpR_ok k (i + 1))
      · exact .inl ⟨_, _, rfl⟩
    · exact .inr rfl
theorem cp_imp {m : Bool} {own : List (Str × Nat)} {σ : Sg} {H : Hp} {Q : VK} (hn : nmT (own.map (·.2)) tg = true) (h0 : TrE C.K W (fun e s => (fi e s).bd fun w s => (cpAll (sem gl F tg) (sem gl F cond) (sem gl F elt) (wipeE e (own.map (·.2))) w s).bd fun xs s => mkLst m xs s) σ H Q) :
    L2.tLc (TrI C.K W fi) (gE C.K tg) (TrT C.K W0 (cnd (sem gl F cond))) (TrE C.K W0 (sem gl F elt).e) (own.map (·.2)) σ H Q :=
  let ⟨O, ρ, e, st, R, h⟩ := h0; ⟨O, ρ, e, st, R, End.bd R.S h fun w st1 ρ1 H1 J _ s1 S1 r1 h1 D hD => by
    have R1 := R.go s1 S1
    have wid : Wid O (fun a => O a ∨ a = D) H1 := fun a q => q.elim .inl fun q => .inr (q ▸ hD)
    have Sf : RelS C.K (fun _ => False) ρ1 H1 st1 := S1.less fun _ q => q.elim
    have S0 := S1.newOwn (ho := .lst []) hD
    have E0 := (RelE.newOwn (ho := .lst []) S1 R1.E hD).wipe (own.map (·.2))
    have s0 : Stp ρ1 st1 H1 ρ1 st1 (upd H1 D (.lst [])) := Stp.new S1 hD
    have ltl : ∀ {k : Nat}, k < lim → k < sizeLine := fun {k} hk => Nat.lt_of_lt_of_le hk (by decide +kernel)
    have le1 : lim < sizeLine := by decide +kernel
    cases w with
    | inl vs =>
      have okI : ItOk C.K O ρ1 st1 H1 vs J := r1
      by_cases hz : vs.length ≤ lim
      · have h2 : End C.K W O (RpV C.K O) ρ1 st1 H1 ((cpL (sem gl F tg).k (cnd (sem gl F cond)) (sem gl F elt).e (wipeE e (own.map (·.2))) vs st1).bd fun xs s => mkLst m xs s) Q := by
          rw [← cpAll_inl hz]
          exact h1
        refine ⟨fun i k H => k = vs.length - i ∧ ∃ ρ st acc accP xs s'', Stp ρ1 st1 H1 ρ st H ∧ RelS C.K (fun a => O a ∨ a = D) ρ H st ∧ RelE C.K (fun a => O a ∨ a = D) ρ (wipe σ (own.map (·.2))) H (wipeE e (own.map (·.2))) st ∧ H D = some (.lst acc) ∧ acc.length ≤ i ∧ ReqP C.K (Mt (fun a => O a ∨ a = D) ρ st) H accP acc ∧
          cpL (sem gl F tg).k (cnd (sem gl F cond)) (sem gl F elt).e (wipeE e (own.map (·.2))) (vs.drop i) st = .ok xs s'' ∧ End C.K W O (RpV C.K O) ρ1 st1 H1 (mkLst m (accP ++ xs) s'') Q, ⟨vs.length, by simp, ?_⟩, ?_⟩
        · rcases cpL_ok (tg := (sem gl F tg).k) (cond := cnd (sem gl F cond)) (elt := (sem gl F elt).e) (e := wipeE e (own.map (·.2))) vs st1 with ⟨xs, s', q⟩ | q
          · rw [q] at h2
            exact ⟨ρ1, st1, [], [], xs, s', s0, S0, E0, upd_same, Nat.le_refl _, .nil, q, h2⟩
          · rw [q] at h2; exact h2.elim
        · rintro i k H ⟨rfl, ρ2, st2, acc, accP, xs, s'', t2, S2, E2, hD2, hl, ra, hc2, hq⟩
          have oki := okI (fun a => O a ∨ a = D) ρ2 st2 H wid t2 S2 i
          by_cases hlt : i < vs.length
          · obtain ⟨g1, g2⟩ := oki.1 vs[i] (by simp [hlt])
            rw [show vs.drop i = vs[i] :: vs.drop (i + 1) from List.drop_eq_getElem_cons hlt, cpL_cons] at hc2
            refine .inr ⟨g1, fun H => ∃ ρ st acc accP xs s'', Stp ρ1 st1 H1 ρ st H ∧ RelS C.K (fun a => O a ∨ a = D) ρ H st ∧ RelE C.K (fun a => O a ∨ a = D) ρ (wipe σ (own.map (·.2))) H (wipeE e (own.map (·.2))) st ∧ H D = some (.lst acc) ∧ acc.length ≤ i + 1 ∧ ReqP C.K (Mt (fun a => O a ∨ a = D) ρ st) H accP acc ∧
              cpL (sem gl F tg).k (cnd (sem gl F cond)) (sem gl F elt).e (wipeE e (own.map (·.2))) (vs.drop (i + 1)) st = .ok xs s'' ∧ End C.K W O (RpV C.K O) ρ1 st1 H1 (mkLst m (accP ++ xs) s'') Q, fun H' q => ⟨vs.length - (i + 1), by omega, rfl, q⟩, fun x H' y => ?_⟩
            obtain ⟨u1, u2, u3⟩ := g2 x H' y
            have hD3 : H' D = some (.lst acc) := u1.kp D _ hD2 (fun ⟨n, o, q1, q2, q3⟩ => S2.out n (List.getElem?_eq_some_iff.mp q1).1 (.inr q3)) fun ps z => nomatch z
            exact cp_turn hn (fun _ _ _ => trivial) (t2.trans Sf (S2.less fun _ q => q.elim) u1) u2 Sf (E2.stp S2 u1) (.inr rfl) hD hD3 (by omega) (ra.stp S2 u1) u3 hc2
              fun ρ3 st3 H3 acc3 accP3 ys v1 v2 v3 v4 v5 v6 v7 v8 => ⟨ρ3, st3, acc3, accP3, ys, s'', v1, v2, v3, v4, by omega, v6, v7, by rw [v8]; exact hq⟩
          · refine .inl ⟨oki.2 (by omega), ?_⟩
            rw [List.drop_eq_nil_of_le (by omega)] at hc2
            cases hc2
            rw [List.append_nil] at hq
            exact cp_end S1 hq hD t2 S2 hD2 ra
      · rw [cpAll_no hz] at h1
        exact h1.elim
    | inr n =>
      obtain ⟨hn1, rfl⟩ : n < st1.length ∧ J = Itl C.K (ρ1 n) := r1
      have h2 : End C.K W O (RpV C.K O) ρ1 st1 H1 ((cpR (sem gl F tg).k (cnd (sem gl F cond)) (sem gl F elt).e n (wipeE e (own.map (·.2))) bigN 0 st1).bd fun xs s => mkLst m xs s) Q := h1
      refine ⟨fun i k H => i + k = bigN ∧ ∃ ρ st acc accP xs s'', Stp ρ1 st1 H1 ρ st H ∧ RelS C.K (fun a => O a ∨ a = D) ρ H st ∧ RelE C.K (fun a => O a ∨ a = D) ρ (wipe σ (own.map (·.2))) H (wipeE e (own.map (·.2))) st ∧ H D = some (.lst acc) ∧ acc.length ≤ i ∧ ReqP C.K (Mt (fun a => O a ∨ a = D) ρ st) H accP acc ∧
        cpR (sem gl F tg).k (cnd (sem gl F cond)) (sem gl F elt).e n (wipeE e (own.map (·.2))) k i st = .ok xs s'' ∧ End C.K W O (RpV C.K O) ρ1 st1 H1 (mkLst m (accP ++ xs) s'') Q, ⟨bigN, by simp, ?_⟩, ?_⟩
      · rcases cpR_ok (tg := (sem gl F tg).k) (cond := cnd (sem gl F cond)) (elt := (sem gl F elt).e) (n := n) (e := wipeE e (own.map (·.2))) bigN 0 st1 with ⟨xs, s', q⟩ | q
        · rw [q] at h2
          exact ⟨ρ1, st1, [], [], xs, s', s0, S0, E0, upd_same, Nat.le_refl _, .nil, q, h2⟩
        · rw [q] at h2; exact h2.elim
      · rintro i k H ⟨hk, ρ2, st2, acc, accP, xs, s'', t2, S2, E2, hD2, hl, ra, hc2, hq⟩
        cases k with
        | zero => cases hc2
        | succ k =>
          have big : bigN = lim := rfl
          have hn2 : n < st2.length := Nat.lt_of_lt_of_le hn1 t2.le
          obtain ⟨w, f1, f2⟩ := S2.ob n st2[n] (by simp [hn2])
          rw [t2.ag n hn1] at f1
          rw [cpR_succ, show st2[n]? = some st2[n] by simp [hn2]] at hc2
          have step : ∀ (v : Vl) (vs : List V) (u : V), w = .lst vs → vs[i]? = some u → Rep C.K (fun a => O a ∨ a = D) ρ2 st2 H v u → cpT (sem gl F tg).k (cnd (sem gl F cond)) (sem gl F elt).e (wipeE e (own.map (·.2))) v st2 (cpR (sem gl F tg).k (cnd (sem gl F cond)) (sem gl F elt).e n (wipeE e (own.map (·.2))) k (i + 1)) = .ok xs s'' →
              ((Itl C.K (ρ1 n)).go i H ∧ ∃ Nx : Hp → Prop, (∀ H', Nx H' → ∃ m', m' < k + 1 ∧ i + 1 + m' = bigN ∧ ∃ ρ st acc accP xs s'', Stp ρ1 st1 H1 ρ st H' ∧ RelS C.K (fun a => O a ∨ a = D) ρ H' st ∧ RelE C.K (fun a => O a ∨ a = D) ρ (wipe σ (own.map (·.2))) H' (wipeE e (own.map (·.2))) st ∧ H' D = some (.lst acc) ∧ acc.length ≤ i + 1 ∧ ReqP C.K (Mt (fun a => O a ∨ a = D) ρ st) H' accP acc ∧
                cpR (sem gl F tg).k (cnd (sem gl F cond)) (sem gl F elt).e n (wipeE e (own.map (·.2))) m' (i + 1) st = .ok xs s'' ∧ End C.K W O (RpV C.K O) ρ1 st1 H1 (mkLst m (accP ++ xs) s'') Q) ∧
                ∀ x H', (Itl C.K (ρ1 n)).yld i H x H' → gE C.K tg x (wipe σ (own.map (·.2))) H' fun σ2 H2 => wipe σ2 (own.map (·.2)) = wipe σ (own.map (·.2)) ∧ TrT C.K W0 (cnd (sem gl F cond)) σ2 H2 fun b H3 =>
                  if b = true then TrE C.K W0 (sem gl F elt).e σ2 H3 fun y H4 => ∃ acc, H4 D = some (.lst acc) ∧ acc.length < sizeLine ∧ Nx (L2.upd H4 D (.lst (acc ++ [y]))) else Nx H3) := by
            intro v vs u e1 e2' rv h3
            subst e1
            refine ⟨⟨vs, u, .of f1, e2'⟩, fun H' => i + 1 + k = bigN ∧ ∃ ρ st acc accP xs s'', Stp ρ1 st1 H1 ρ st H' ∧ RelS C.K (fun a => O a ∨ a = D) ρ H' st ∧ RelE C.K (fun a => O a ∨ a = D) ρ (wipe σ (own.map (·.2))) H' (wipeE e (own.map (·.2))) st ∧ H' D = some (.lst acc) ∧ acc.length ≤ i + 1 ∧ ReqP C.K (Mt (fun a => O a ∨ a = D) ρ st) H' accP acc ∧
                cpR (sem gl F tg).k (cnd (sem gl F cond)) (sem gl F elt).e n (wipeE e (own.map (·.2))) k (i + 1) st = .ok xs s'' ∧ End C.K W O (RpV C.K O) ρ1 st1 H1 (mkLst m (accP ++ xs) s'') Q, fun H' q => ⟨k, Nat.lt_succ_self _, q⟩, fun x H' ⟨y1, y2⟩ => ?_⟩
            subst y1
            have := y2 vs (.of f1)
            rw [e2'] at this
            cases this
            exact cp_turn hn (fun _ _ _ => trivial) t2 S2 Sf E2 (.inr rfl) hD hD2 (by omega) ra rv h3
              fun ρ3 st3 H3 acc3 accP3 ys v1 v2 v3 v4 v5 v6 v7 v8 => ⟨by omega, ρ3, st3, acc3, accP3, ys, s'', v1, v2, v3, v4, by omega, v6, v7, by rw [v8]; exact hq⟩
          have ends : ∀ (vs : List V), w = .lst vs → vs[i]? = none → (.ok [] st2 : Mi.R (List P)) = .ok xs s'' → ((Itl C.K (ρ1 n)).stop i H ∧ Q (.ref D) H) := by
            intro vs e1 e2' h3
            subst e1
            cases h3
            rw [List.append_nil] at hq
            exact ⟨⟨vs, .of f1, List.getElem?_eq_none_iff.mp e2'⟩, cp_end S1 hq hD t2 S2 hD2 ra⟩
          cases q : st2[n] with
          | lp z ys =>
            rw [q] at f2 hc2
            obtain ⟨vs, e1, r⟩ := f2
            dsimp only at hc2
            cases qx : ys[i]? with
            | some d =>
              rw [qx] at hc2
              obtain ⟨u, h3, h4⟩ := r.get qx
              exact .inr (step (.p d) vs u e1 h3 h4 hc2)
            | none =>
              rw [qx] at hc2
              exact .inl (ends vs e1 (r.none_of qx) hc2)
          | lr ys =>
            rw [q] at f2 hc2
            obtain ⟨e1, r⟩ := f2
            dsimp only at hc2
            cases qx : ys[i]? with
            | some d =>
              rw [qx] at hc2
              exact .inr (step (.r d) _ _ e1 (by simp [qx]) ⟨r d (List.mem_of_getElem? qx), rfl⟩ hc2)
            | none =>
              rw [qx] at hc2
              exact .inl (ends _ e1 (by simp [qx]) hc2)
          | dp z kvs => rw [q] at hc2; cases hc2
          | no => rw [q] at f2; exact f2.elim⟩
theorem xCp {iter : Expr} {scope : Scope} {own : List (Str × Nat)} {pos : Pos} {m : Bool} {ifs : List Expr} (hc : C.calm = true) (hN : C.N.Nodup) (hi : PI C (toE tg) iter (TrI C.K W fi)) (ok : L2.BlkOk C.N C.env.scope scope own) (hn : nmT (own.map (·.2)) tg = true)
    (hg : ∀ (s : Shared) (H : Hp) (Cc : Addr) (cl : List (Str × Addr)) (fp : List Addr), PG (C.blk s H scope (compEnvC scope cl Cc C.env) fp) (toE tg) (gE C.K tg))
    (ht : ∀ (s : Shared) (H : Hp) (Cc : Addr) (cl : List (Str × Addr)) (fp : List Addr), L2.PTs (C.blk s H scope (compEnvC scope cl Cc C.env) fp) ifs (TrT C.K W0 (cnd (sem gl F cond))))
    (he : ∀ (s : Shared) (H : Hp) (Cc : Addr) (cl : List (Str × Addr)) (fp : List Addr), PE (C.blk s H scope (compEnvC scope cl Cc C.env) fp) (toE elt) (TrE C.K W0 (sem gl F elt).e)) (hs : ∀ x, foldedSetIterable iter C.env x = pure x) :
    PE C (.ListComp (toE elt) [⟨toE tg, iter, ifs, 0⟩] scope pos) (TrE C.K W fun e s => (fi e s).bd fun w s => (cpAll (sem gl F tg) (sem gl F cond) (sem gl F elt) (wipeE e (own.map (·.2))) w s).bd fun xs s => mkLst m xs s) :=
  imE (L2.pe_lc hc hN hi ok hg ht he hs) fun σ H Q h => cp_imp hn h
/-- a name, the new list on the same line -/
theorem sLc {iter : Expr} {scope : Scope} {own : List (Str × Nat)} {pos spos py : Pos} {m : Bool} {ifs : List Expr} {i : Nat} {y : Str} (hc : C.calm = true) (hN : C.N.Nodup) (hy : C.N[i]? = some y) (hyl : C.env.scope.names.lookup y = some .local)
    (hsw : swapsWith (.ListComp (toE elt) [⟨toE tg, iter, ifs, 0⟩] scope pos) (some (.Name y py)) spos.line C.env = pure true)
    (hi : PI C (toE tg) iter (TrI C.K W fi)) (ok : L2.BlkOk C.N C.env.scope scope own) (hn : nmT (own.map (·.2)) tg = true)
    (hg : ∀ (s : Shared) (H : Hp) (Cc : Addr) (cl : List (Str × Addr)) (fp : List Addr), PG (C.blk s H scope (compEnvC scope cl Cc C.env) fp) (toE tg) (gE C.K tg))
    (ht : ∀ (s : Shared) (H : Hp) (Cc : Addr) (cl : List (Str × Addr)) (fp : List Addr), L2.PTs (C.blk s H scope (compEnvC scope cl Cc C.env) fp) ifs (TrT C.K W0 (cnd (sem gl F cond))))
    (he : ∀ (s : Shared) (H : Hp) (Cc : Addr) (cl : List (Str × Addr)) (fp : List Addr), PE (C.blk s H scope (compEnvC scope cl Cc C.env) fp) (toE elt) (TrE C.K W0 (sem gl F elt).e)) (hs : ∀ x, foldedSetIterable iter C.env x = pure x) :
    PS C (.Assign [.Name y py] (.ListComp (toE elt) [⟨toE tg, iter, ifs, 0⟩] scope pos) spos) (TrS C.K W fun e s => ((fi e s).bd fun w s => (cpAll (sem gl F tg) (sem gl F cond) (sem gl F elt) (wipeE e (own.map (·.2))) w s).bd fun xs s => mkLst m xs s).bx fun v s => kV i v e s) :=
  imS (L2.ps_setLc hc hN hy hyl hsw hi ok hg ht he hs) fun D σ H ⟨O, ρ, e, st, R, h⟩ => cp_imp (m := m) hn ⟨O, ρ, e, st, R, End.bx R.S h fun x st1 ρ1 H1 v _ s1 S1 r1 h1 => h1 ρ1 _ H1 .rfl ⟨S1, (R.go s1 S1).E.set r1 i⟩⟩
end
end Mi
end
section
set_option Elab.async false
set_option linter.all false
set_option maxRecDepth 100000
set_option maxHeartbeats 1000000
/-! M15: the store at a call. -/
namespace Mi
open PySem
open L2 (V HO Hp upd upd_same upd_ne SqL SqT Rd Cx Inv PE PT PA PS PSs PG PGs PI TE TT TA TS TG TGs TI It VK XK Ends RelV Vals ne_of_none OpR R2 EP CallR UnR IxR SlR TruR Gl Vis Loc Itl Itt Itr wipe)
theorem refs_nd : ∀ (vs : List Vl), (refs vs).Nodup
  | [] => List.nodup_nil
  | .p _ :: r => refs_nd r
  | .r n :: r => by
    show (n :: (refs r).filter (· != n)).Nodup
    rw [List.nodup_cons]
    exact ⟨by simp, (refs_nd r).filter _⟩
theorem refs_sub (n : Nat) : ∀ (vs : List Vl), n ∈ refs vs ↔ Vl.r n ∈ vs
  | [] => by simp [refs]
  | .p _ :: r => by simp [refs, refs_sub n r]
  | .r k :: r => by
    show n ∈ k :: (refs r).filter (· != k) ↔ _
    simp only [List.mem_cons, List.mem_filter, bne_iff_ne, ne_eq, Vl.r.injEq, refs_sub n r]
    constructor
    · rintro (h | h)
      · exact .inl h
      · exact .inr h.1
    · rintro (h | h)
      · exact .inl h
      · by_cases q : n = k
        · exact .inl q
        · exact .inr ⟨h, q⟩
theorem back_len : ∀ (rs : List Nat) (l st : Sr), (back rs l st).length = st.length
  | [], _, _ => rfl
  | _ :: _, [], _ => rfl
  | n :: r, o :: os, st => by
    show (back r os (st.set n o)).length = _
    rw [back_len r os, List.length_set]
theorem back_out : ∀ (rs : List Nat) (l st : Sr) (n : Nat), n ∉ rs → (back rs l st)[n]? = st[n]?
  | [], _, _, _, _ => rfl
  | _ :: _, [], _, _, _ => rfl
  | m :: r, o :: os, st, n, h => by
    show (back r os (st.set m o))[n]? = _
    simp only [List.mem_cons, not_or] at h
    rw [back_out r os _ n h.2, List.getElem?_set_ne (Ne.symm h.1)]
theorem back_in : ∀ (rs : List Nat) (l st : Sr) (j n : Nat), rs.Nodup → rs.length ≤ l.length → rs[j]? = some n → n < st.length → (back rs l st)[n]? = l[j]?
  | [], _, _, _, _, _, _, h, _ => by simp at h
  | _ :: _, [], _, _, _, _, h, _, _ => by simp at h
  | m :: r, o :: os, st, 0, n, nd, hl, h, lt => by
    simp at h
    subst h
    show (back r os (st.set m o))[m]? = _
    rw [back_out r os _ m (List.nodup_cons.mp nd).1, List.getElem?_set_self lt]
    rfl
  | m :: r, o :: os, st, j + 1, n, nd, hl, h, lt => by
    show (back r os (st.set m o))[n]? = _
    rw [back_in r os _ j n (List.nodup_cons.mp nd).2 (by simpa using hl) (by simpa using h) (by simpa using lt)]
    simp
section
variable {K : Fg} {W : Nat → Option Addr → Hp → Prop} {O : Addr → Prop} {ρ : Nat → Addr} {H : Hp} {st : Sr}
theorem Reps.lt : ∀ {vs : List Vl} {us : List V}, Reps K O ρ st H vs us → ∀ n, Vl.r n ∈ vs → n < st.length
  | _, _, .nil, n, h => by simp at h
  | _, _, .cons (x := x) h r, n, hm => by
    rcases List.mem_cons.mp hm with e | hm
    · subst e; exact h.1
    · exact r.lt n hm
/-- what a callee owns nothing of: the caller's own, the live things that are not handed in -/
def Oc (O : Addr → Prop) (ρ : Nat → Addr) (st : Sr) (rs : List Nat) : Addr → Prop := fun a => O a ∨ (live ρ st a ∧ ∀ n ∈ rs, ρ n ≠ a)
def rhoC (ρ : Nat → Addr) (rs : List Nat) : Nat → Addr := fun j => ρ (rs.getD j 0)
def locC (st : Sr) (rs : List Nat) : Sr := rs.map fun n => st.getD n .no
theorem loc_get {rs : List Nat} {j : Nat} {o : Ob} (hlt : ∀ n ∈ rs, n < st.length) (h : (locC st rs)[j]? = some o) : ∃ n, rs[j]? = some n ∧ n < st.length ∧ st[n]? = some o ∧ rhoC ρ rs j = ρ n := by
  unfold locC at h
  rw [List.getElem?_map] at h
  obtain ⟨n, h1, h2⟩ := Option.map_eq_some_iff.mp h
  have lt := hlt n (List.mem_of_getElem? h1)
  refine ⟨n, h1, lt, ?_, ?_⟩
  · rw [← h2]; simp [List.getD, lt]
  · unfold rhoC; simp [List.getD, h1]
theorem loc_live {rs : List Nat} (hlt : ∀ n ∈ rs, n < st.length) {a : Addr} (h : live (rhoC ρ rs) (locC st rs) a) : live ρ st a ∧ ∃ n ∈ rs, ρ n = a := by
  obtain ⟨j, o, h1, h2, h3⟩ := h
  obtain ⟨n, e1, e2, e3, e4⟩ := loc_get (ρ := ρ) hlt h1
  exact ⟨⟨n, o, e3, h2, e4 ▸ h3⟩, n, List.mem_of_getElem? e1, e4 ▸ h3⟩
theorem mt_c {rs : List Nat} (hlt : ∀ n ∈ rs, n < st.length) {a : Addr} (h : Mt (Oc O ρ st rs) (rhoC ρ rs) (locC st rs) a) : Mt O ρ st a := by
  rcases h with (h | h) | h
  · exact .inl h
  · exact .inr h.1
  · exact .inr (loc_live hlt h).1
theorem loc_rel (S : RelS K O ρ H st) {rs : List Nat} (nd : rs.Nodup) (hlt : ∀ n ∈ rs, n < st.length) (hp : (locC st rs).all plainOb = true) : RelS K (Oc O ρ st rs) (rhoC ρ rs) H (locC st rs) := by
  refine ⟨fun j o h => ?_, fun j k hj hk q => ?_, fun j hj q => ?_, fun a q => ?_⟩
  · obtain ⟨n, e1, e2, e3, e4⟩ := loc_get (ρ := ρ) hlt h
    obtain ⟨u, f1, f2⟩ := S.ob n o e3
    refine ⟨u, by rw [e4]; exact f1, ?_⟩
    have := List.all_eq_true.mp hp o (List.mem_of_getElem? h)
    cases o with
    | lp z xs => obtain ⟨vs, rfl, r⟩ := f2; exact ⟨vs, rfl, r.oth fun a _ q => mt_c hlt q⟩
    | lr ns => cases this
    | dp z kvs => obtain ⟨ks, q, r⟩ := f2; exact ⟨ks, q, r.map fun h => h.oth fun a _ q => mt_c hlt q⟩
    | no => exact f2.elim
  · have lj : j < rs.length := by simpa [locC] using hj
    have lk : k < rs.length := by simpa [locC] using hk
    have ej : rhoC ρ rs j = ρ rs[j] := by simp [rhoC, List.getD, lj]
    have ek : rhoC ρ rs k = ρ rs[k] := by simp [rhoC, List.getD, lk]
    rw [ej, ek] at q
    have := S.inj _ _ (hlt _ (List.getElem_mem lj)) (hlt _ (List.getElem_mem lk)) q
    exact (List.getElem_inj nd).mp this
  · have lj : j < rs.length := by simpa [locC] using hj
    have ej : rhoC ρ rs j = ρ rs[j] := by simp [rhoC, List.getD, lj]
    rw [ej] at q
    rcases q with q | q
    · exact S.out _ (hlt _ (List.getElem_mem lj)) q
    · exact q.2 _ (List.getElem_mem lj) rfl
  · rcases q with q | q
    · exact S.al a q
    · rcases live_lst S q.1 with ⟨vs, e⟩ | ⟨vs, e⟩ <;> (rw [e]; simp)
theorem loc_args (S : RelS K O ρ H st) {rs : List Nat} (hlt : ∀ n ∈ rs, n < st.length) : ∀ {args : List Vl} {vs : List V}, Reps K O ρ st H args vs → (∀ n, Vl.r n ∈ args → n ∈ rs) → Reps K (Oc O ρ st rs) (rhoC ρ rs) (locC st rs) H (inArgs rs args) vs
  | _, _, .nil, _ => .nil
  | _, _, .cons (x := x) h r, hm => by
    have ih := loc_args S hlt r fun n hn => hm n (List.mem_cons_of_mem _ hn)
    cases x with
    | p d => exact .cons (RepP.oth (fun a _ q => mt_c hlt q) h) ih
    | r n =>
      have hn := hm n List.mem_cons_self
      have li : rs.idxOf n < rs.length := List.idxOf_lt_length_of_mem hn
      refine .cons ⟨by simpa [locC] using li, ?_⟩ ih
      rw [h.2]
      simp [rhoC, List.getD, li]
/-- behind a call: things at js (made by the callee) join the store -/
structure Bk (K : Fg) (O Ox : Addr → Prop) (ρ : Nat → Addr) (st : Sr) (H : Hp) (rs : List Nat) (ρ' : Nat → Addr) (l : Sr) (H' : Hp) : Prop where
  s : Stp ρ st H ρ (back rs l st) H'
  S : RelS K Ox ρ H' (back rs l st)
  mt : ∀ a, Mt Ox ρ (back rs l st) a → Mt (Oc O ρ st rs) ρ' l a
theorem back_ok {Ox : Addr → Prop} (S : RelS K O ρ H st) {rs : List Nat} (nd : rs.Nodup) (hlt : ∀ n ∈ rs, n < st.length) (hp : (locC st rs).all plainOb = true) {ρ' : Nat → Addr} {l : Sr} {H' : Hp} (s : Stp (rhoC ρ rs) (locC st rs) H ρ' l H') (S' : RelS K (Oc O ρ st rs) ρ' H' l)
    (wx : Wid O Ox H) (xl : ∀ a, Ox a → O a ∨ live ρ' l a) (xo : ∀ n, n < st.length → ¬ Ox (ρ n)) : Bk K O Ox ρ st H rs ρ' l H' := by
  have ll : rs.length ≤ l.length := by have := s.le; simpa [locC] using this
  have bin : ∀ {j n : Nat}, rs[j]? = some n → (back rs l st)[n]? = l[j]? := fun {j n} h => back_in rs l st j n nd ll h (hlt n (List.mem_of_getElem? h))
  have ag : ∀ {j n : Nat}, rs[j]? = some n → ρ' j = ρ n := fun {j n} h => by
    have lj := (List.getElem?_eq_some_iff.mp h).1
    rw [s.ag j (by simpa [locC] using lj)]
    simp [rhoC, List.getD, h]
  have ix : ∀ {n : Nat}, n ∈ rs → ∃ j, rs[j]? = some n := fun {n} h => by
    obtain ⟨j, hj, e⟩ := List.getElem_of_mem h
    exact ⟨j, by rw [List.getElem?_eq_getElem hj, e]⟩
  have nl : ∀ {n : Nat}, n < st.length → n ∉ rs → ¬ live (rhoC ρ rs) (locC st rs) (ρ n) := fun {n} hn hm q => by
    obtain ⟨_, k, hk, e⟩ := loc_live hlt q
    exact hm (S.inj k n (hlt k hk) hn e ▸ hk)
  have lp : ∀ {j n : Nat}, rs[j]? = some n → (∃ z xs, st[n]? = some (.lp z xs) ∧ ∃ z' xs', l[j]? = some (.lp z' xs')) ∨ ∃ z xs, st[n]? = some (.dp z xs) ∧ ∃ z' xs', l[j]? = some (.dp z' xs') := fun {j n} h => by
    have lt := hlt n (List.mem_of_getElem? h)
    have e : (locC st rs)[j]? = some st[n] := by simp [locC, h, List.getD, lt]
    have := List.all_eq_true.mp hp _ (List.mem_of_getElem? e)
    obtain ⟨u, _, f2⟩ := S.ob n st[n] (by simp [lt])
    cases q : st[n] with
    | lp z xs =>
      rw [q] at e
      exact .inl ⟨z, xs, by rw [← q]; simp [lt], s.lp j z xs e⟩
    | lr ns => rw [q] at this; cases this
    | dp z kvs =>
      rw [q] at e
      exact .inr ⟨z, kvs, by rw [← q]; simp [lt], s.dp j z kvs e⟩
    | no => rw [q] at f2; exact f2.elim
  have lv : ∀ a, live ρ (back rs l st) a → live ρ' l a ∨ (live ρ st a ∧ ∀ k ∈ rs, ρ k ≠ a) := fun a ⟨n, o, h1, h2, h3⟩ => by
    have lt : n < st.length := by
      have := (List.getElem?_eq_some_iff.mp h1).1
      rwa [back_len] at this
    by_cases hm : n ∈ rs
    · obtain ⟨j, hj⟩ := ix hm
      rw [bin hj] at h1
      exact .inl ⟨j, o, h1, h2, (ag hj).trans h3⟩
    · rw [back_out rs l st n hm] at h1
      exact .inr ⟨⟨n, o, h1, h2, h3⟩, fun k hk z => hm (S.inj k n (hlt k hk) lt (z.trans h3.symm) ▸ hk)⟩
  have mt : ∀ a, Mt Ox ρ (back rs l st) a → Mt (Oc O ρ st rs) ρ' l a := fun a q => by
    rcases q with q | q
    · exact (xl a q).elim (fun q => .inl (.inl q)) .inr
    · rcases lv a q with q | q
      · exact .inr q
      · exact .inl (.inr q)
  have stp : Stp ρ st H ρ (back rs l st) H' := by
    refine ⟨by rw [back_len]; exact Nat.le_refl _, fun _ _ => rfl, fun a q => ?_, fun a o e n t => s.kp a o e (fun q => n (loc_live hlt q).1) t, fun n ns e => ⟨ns, ?_⟩, s.tb, fun n z xs e => ?_, fun n z xs e => ?_⟩
    · rcases lv a q with q | q
      · rcases s.lv a q with q | q
        · exact .inl (loc_live hlt q).1
        · exact .inr q
      · exact .inl q.1
    · rw [back_out rs l st n fun hm => ?_]
      · exact e
      · obtain ⟨j, hj⟩ := ix hm
        rcases lp hj with ⟨z, xs, q, _⟩ | ⟨z, xs, q, _⟩ <;> (rw [e] at q; cases q)
    · by_cases hm : n ∈ rs
      · obtain ⟨j, hj⟩ := ix hm
        rcases lp hj with ⟨_, _, _, z', xs', q⟩ | ⟨_, _, q, _⟩
        · exact ⟨z', xs', by rw [bin hj]; exact q⟩
        · rw [e] at q; cases q
      · exact ⟨z, xs, by rw [back_out rs l st n hm]; exact e⟩
    · by_cases hm : n ∈ rs
      · obtain ⟨j, hj⟩ := ix hm
        rcases lp hj with ⟨_, _, q, _⟩ | ⟨_, _, _, z', xs', q⟩
        · rw [e] at q; cases q
        · exact ⟨z', xs', by rw [bin hj]; exact q⟩
      · exact ⟨z, xs, by rw [back_out rs l st n hm]; exact e⟩
  refine ⟨stp, ⟨fun n o e => ?_, fun n k hn hk => S.inj n k (by rwa [back_len] at hn) (by rwa [back_len] at hk), fun n hn => xo n (by rwa [back_len] at hn), fun a q => ?_⟩, mt⟩
  rotate_left
  · rcases xl a q with q | ⟨n, o, q1, _, rfl⟩
    · exact S'.al a (.inl q)
    · obtain ⟨u, f1, _⟩ := S'.ob n o q1
      rw [f1]; simp
  have lt : n < st.length := by
    have := (List.getElem?_eq_some_iff.mp e).1
    rwa [back_len] at this
  by_cases hm : n ∈ rs
  · obtain ⟨j, hj⟩ := ix hm
    rw [bin hj] at e
    obtain ⟨u, f1, f2⟩ := S'.ob j o e
    refine ⟨u, by rw [← ag hj]; exact f1, ?_⟩
    rcases lp hj with ⟨_, _, _, z', xs', q⟩ | ⟨_, _, _, z', xs', q⟩
    · rw [e] at q
      cases q
      obtain ⟨vs, rfl, r⟩ := f2
      exact ⟨vs, rfl, r.oth fun a _ q => mt a q⟩
    · rw [e] at q
      cases q
      obtain ⟨ks, q, r⟩ := f2
      exact ⟨ks, q, r.map fun h => h.oth fun a _ q => mt a q⟩
  · rw [back_out rs l st n hm] at e
    obtain ⟨u, f1, f2⟩ := S.ob n o e
    have kept : H' (ρ n) = some u := s.kp _ _ f1 (nl lt hm) fun ps z => by
      subst z
      cases o with
      | lp z xs => obtain ⟨vs, q, _⟩ := f2; cases q
      | lr ns => cases f2.1
      | dp z kvs => obtain ⟨ks, ⟨_, q⟩ | ⟨_, o, q⟩, _⟩ := f2 <;> cases q
      | no => exact f2
    refine ⟨u, kept, ?_⟩
    cases o with
    | lp z xs => obtain ⟨vs, rfl, r⟩ := f2; exact ⟨vs, rfl, r.go S wx stp⟩
    | lr ns => exact ⟨f2.1, fun n hn => by rw [back_len]; exact f2.2 n hn⟩
    | dp z kvs => obtain ⟨ks, q, r⟩ := f2; exact ⟨ks, q, r.map fun h => h.go S wx stp⟩
    | no => exact f2.elim
/-- a call, from the caller's side to the callee's -/
theorem callW_ok {F : List Vl → Sr → R Vl} {m : Bool} {args : List Vl} {vs : List V} {Q : VK} (S : RelS K O ρ H st) (ra : Reps K O ρ st H args vs) (h : End K W O (RpV K O) ρ st H (callW F m args st) Q) :
    ∃ (O2 : Addr → Prop) (ρ2 : Nat → Addr) (as : List Vl) (l : Sr), RelS K O2 ρ2 H l ∧ Reps K O2 ρ2 l H as vs ∧ F as l ≠ .no ∧ End K W O2 (RpV K O2) ρ2 l H (F as l) Q := by
  have nd := refs_nd args
  have hlt : ∀ n ∈ refs args, n < st.length := fun n hn => ra.lt n ((refs_sub n args).mp hn)
  unfold callW at h
  dsimp only at h
  split at h
  · rename_i hp
    have hp' : (locC st (refs args)).all plainOb = true := hp
    refine ⟨Oc O ρ st (refs args), rhoC ρ (refs args), inArgs (refs args) args, locC st (refs args), loc_rel S nd hlt hp', loc_args S hlt ra fun n hn => (refs_sub n args).mpr hn, ?_⟩
    have h' : End K W O (RpV K O) ρ st H (match F (inArgs (refs args) args) (locC st (refs args)) with
      | .ok (.p x) l => .ok (.p x) (back (refs args) l st)
      | .ok (.r j) l => match l[j]? with
        | some (.lp z xs) =>
          if j < (refs args).length then .ok (.r ((refs args).getD j 0)) (back (refs args) l st)
          else if m then (if z = 0 then .ok (.r st.length) (back (refs args) l st ++ [.lp 0 xs]) else .no) else .ok (.p (.list xs)) (back (refs args) l st)
        | some (.dp z xs) =>
          if j < (refs args).length then .ok (.r ((refs args).getD j 0)) (back (refs args) l st)
          else if z = 0 then .ok (.r st.length) (back (refs args) l st ++ [.dp 0 xs]) else .no
        | _ => .no
      | .ex c x l => .ex c x (back (refs args) l st)
      | .no => .no) Q := h
    cases q : F (inArgs (refs args) args) (locC st (refs args)) with
    | no => rw [q] at h'; exact h'.elim
    | ex c x l =>
      rw [q] at h'
      refine ⟨by simp, fun ρ' H' d s' S' hx => ?_⟩
      have B := back_ok S nd hlt hp' s' S' .rfl (fun _ q => .inl q) S.out
      obtain ⟨v, fs, e1, e2, e3⟩ := hx
      exact h' ρ H' d B.s B.S ⟨v, fs, e1, e2, e3.oth fun a _ q => B.mt a q⟩
    | ok v l =>
      rw [q] at h'
      refine ⟨by simp, fun ρ' H' b s' S' hr => ?_⟩
      have B := back_ok S nd hlt hp' s' S' .rfl (fun _ q => .inl q) S.out
      cases v with
      | p x => exact h' ρ H' b B.s B.S (RepP.oth (fun a _ q => B.mt a q) hr)
      | r j =>
        obtain ⟨hj, rfl⟩ := hr
        have ag : ∀ {j : Nat}, j < (refs args).length → ρ' j = ρ ((refs args).getD j 0) := fun {j} lj => s'.ag j (by simpa [locC] using lj)
        have ej : l[j]? = some l[j] := by simp [hj]
        dsimp only at h'
        rw [ej] at h'
        obtain ⟨u, f1, f2⟩ := S'.ob j l[j] ej
        cases ql : l[j] with
        | lp z xs =>
          rw [ql] at h' f2
          obtain ⟨ws, rfl, rr⟩ := f2
          dsimp only at h'
          by_cases lj : j < (refs args).length
          · rw [if_pos lj] at h'
            refine h' ρ H' _ B.s B.S ⟨?_, by rw [ag lj]⟩
            rw [back_len]
            exact hlt _ (by simp [List.getD, lj])
          · rw [if_neg lj] at h'
            have oj : ¬ Oc O ρ st (refs args) (ρ' j) := S'.out j hj
            have nliv : ¬ live ρ (back (refs args) l st) (ρ' j) := fun ⟨n, o, q1, q2, q3⟩ => by
              have lt : n < st.length := by
                have := (List.getElem?_eq_some_iff.mp q1).1
                rwa [back_len] at this
              by_cases hm : n ∈ refs args
              · obtain ⟨k, hk, e⟩ := List.getElem_of_mem hm
                have := ag hk
                rw [show (refs args).getD k 0 = n by simp [List.getD, hk, e], q3] at this
                have hkl : k < l.length := Nat.lt_of_lt_of_le hk (by have := s'.le; simpa [locC] using this)
                have := S'.inj k j hkl hj this
                omega
              · rw [back_out _ _ _ _ hm] at q1
                exact oj (.inr ⟨⟨n, o, q1, q2, q3⟩, fun k hk z => hm (S.inj k n (hlt k hk) lt (z.trans q3.symm) ▸ hk)⟩)
            have nO : ¬ O (ρ' j) := fun z => oj (.inl z)
            cases m with
            | false =>
              exact h' ρ H' _ B.s B.S (RepP.lst (.inl ⟨.inl f1, fun q => q.elim nO nliv⟩) (rr.oth fun a _ q => B.mt a q))
            | true =>
              simp only [if_true] at h'
              by_cases hz : z = 0
              · subst hz
                rw [if_pos rfl] at h'
                have lvj : live ρ' l (ρ' j) := ⟨j, _, ej, by rw [ql]; rfl, rfl⟩
                have hpn : H (ρ' j) = none := by
                  rcases s'.lv _ lvj with q | q
                  · obtain ⟨_, n, hn, e⟩ := loc_live hlt q
                    obtain ⟨k, hk, e2⟩ := List.getElem_of_mem hn
                    have := ag hk
                    rw [show (refs args).getD k 0 = n by simp [List.getD, hk, e2], e] at this
                    have hkl : k < l.length := Nat.lt_of_lt_of_le hk (by have := s'.le; simpa [locC] using this)
                    have := S'.inj k j hkl hj this
                    omega
                  · exact q
                have B2 := back_ok (Ox := fun a => O a ∨ a = ρ' j) S nd hlt hp' s' S' (fun a q => q.elim .inl fun q => .inr (q ▸ hpn)) (fun a q => q.elim .inl fun q => .inr (q ▸ lvj)) fun n lt q => q.elim (S.out n lt) fun q => by
                  obtain ⟨u, f1, _⟩ := S.ob n st[n] (by simp [lt])
                  rw [q, hpn] at f1; cases f1
                have A := adopt B2.S (O := O) (fun _ q => .inl q) (fun _ q => q) (.inr rfl) nO f1 (rr.oth fun a _ q => B2.mt a q)
                have As := Stp.adopt (o := Ob.lp 0 xs) B.s hpn
                rw [back_len] at A As
                exact h' _ H' _ As A ⟨by simp [back_len], by rw [ext_same]⟩
              · rw [if_neg hz] at h'; exact h'.elim
        | lr ns => rw [ql] at h'; exact h'.elim
        | dp z kvs =>
          rw [ql] at h' f2
          dsimp only at h'
          by_cases lj : j < (refs args).length
          · rw [if_pos lj] at h'
            refine h' ρ H' _ B.s B.S ⟨?_, by rw [ag lj]⟩
            rw [back_len]
            exact hlt _ (by simp [List.getD, lj])
          · rw [if_neg lj] at h'
            by_cases hz : z = 0
            · subst hz
              rw [if_pos rfl] at h'
              obtain ⟨ks, ⟨_, e3⟩ | ⟨nz, _⟩, rr⟩ := f2
              · subst e3
                have oj : ¬ Oc O ρ st (refs args) (ρ' j) := S'.out j hj
                have nO : ¬ O (ρ' j) := fun z => oj (.inl z)
                have lvj : live ρ' l (ρ' j) := ⟨j, _, ej, by rw [ql]; rfl, rfl⟩
                have hpn : H (ρ' j) = none := by
                  rcases s'.lv _ lvj with q | q
                  · obtain ⟨_, n, hn, e⟩ := loc_live hlt q
                    obtain ⟨k, hk, e2⟩ := List.getElem_of_mem hn
                    have := ag hk
                    rw [show (refs args).getD k 0 = n by simp [List.getD, hk, e2], e] at this
                    have hkl : k < l.length := Nat.lt_of_lt_of_le hk (by have := s'.le; simpa [locC] using this)
                    have := S'.inj k j hkl hj this
                    omega
                  · exact q
                have B2 := back_ok (Ox := fun a => O a ∨ a = ρ' j) S nd hlt hp' s' S' (fun a q => q.elim .inl fun q => .inr (q ▸ hpn)) (fun a q => q.elim .inl fun q => .inr (q ▸ lvj)) fun n lt q => q.elim (S.out n lt) fun q => by
                  obtain ⟨u, f1, _⟩ := S.ob n st[n] (by simp [lt])
                  rw [q, hpn] at f1; cases f1
                have A := adoptD B2.S (O := O) (fun _ q => .inl q) (fun _ q => q) (.inr rfl) nO f1 (rr.map fun h => h.oth fun a _ q => B2.mt a q)
                have As := Stp.adopt (o := Ob.dp 0 kvs) B.s hpn
                rw [back_len] at A As
                exact h' _ H' _ As A ⟨by simp [back_len], by rw [ext_same]⟩
              · exact absurd rfl nz
            · rw [if_neg hz] at h'; exact h'.elim
        | no => rw [ql] at f2; exact f2.elim
  · exact h.elim
end
end Mi
end
section
set_option Elab.async false
set_option linter.all false
set_option maxRecDepth 100000
set_option maxHeartbeats 1000000
/-! M16: defs of the module, the context of code. -/
namespace Mi
open PySem PySem.Spec PyProof.Rows
open L2 (V HO Hp upd upd_same upd_ne SqL SqT Rd Cx Inv PE PT PA PS PSs PG PGs PI TE TT TA TS TG TGs TI It VK XK Ends RelV Vals ne_of_none OpR R2 EP CallR UnR IxR SlR TruR Gl Vis Loc Itl Itt Itr wipe Room Env0 CR CE CXT)
/-- the wish about exceptions, by the number of the class -/
abbrev WE (cl : Nat → Value) (E : XK) : Nat → Option Addr → Hp → Prop := fun c d H => E (cl c) d H
/-- what a def promises: it does what g says -/
structure FnG (cl : Nat → Value) (Pr : Program) (w : World) (K : Fg) (mg : Str → Option Value) (base : Heap) (k : Nat) (f : Addr) (fd : FuncData) (ps : List Str) (g : List Vl → Sr → R Vl) : Prop where
  run : ∀ (A : Around) (outer : List Env) (s : Shared) (H : Hp) (args : Args) (us : List Value) (vs : List V) (Q : VK) (E : XK) (O : Addr → Prop) (ρ : Nat → Addr) (as : List Vl) (st : Sr), Room k A → A.guards = some [] → Env0 Pr w K mg base A outer s H → BindsTo s fd args (ps.zip us) → Vals vs us →
    RelS K O ρ H st → Reps K O ρ st H as vs → End K (WE cl E) O (RpV K O) ρ st H (g as st) Q → codeAny (model Pr w) A (.call (.ref f) args) (CR (L2.CX Pr w) outer Pr w H s Q E) s
section
variable {C : Cx} {cl : Nat → Value} {E : XK} {k : Nat} {f : Addr} {fd : FuncData} {ps : List Str} {g : List Vl → Sr → R Vl} {es : List Expr} {fs : En → Sr → R (List Vl)} {pos p : Pos} {x : Str}
theorem run_g {pins : List (Addr × Obj)} {σ : Sg} {H : Hp} {s : Shared} {Q : VK} {us : List Value} {vs : List V} {O : Addr → Prop} {ρ : Nat → Addr} {as : List Vl} {st : Sr} (Fg : FnG cl C.prog C.w C.K C.mg C.base k f fd ps g) (hr : Room k C.A) (hgu : C.A.guards = some []) (hb : L2.Binds C.K fd ps []) (tk : L2.Takes C fun cls d _ H => E cls d H)
    (hl : ∀ as st, g as st ≠ .no → as.length = ps.length) (I : Inv C pins σ H s) (r : Vals vs us) (S : RelS C.K O ρ H st) (ra : Reps C.K O ρ st H as vs) (hn : g as st ≠ .no) (h : End C.K (WE cl E) O (RpV C.K O) ρ st H (g as st) Q) :
    wpAny (model C.prog C.w) C.A (call (.ref f) us) (EP C pins σ Q) C.xe s := by
  have hlen : (us ++ ([] : List Value)).length = ps.length := by rw [List.append_nil, ← r.length, ← ra.len]; exact hl as st hn
  have b := hb s us I.kIn hlen
  rw [List.append_nil] at b
  refine wpAny_call (codeAny_mono (Fg.run C.A C.stack s H ⟨us, []⟩ us vs Q E O ρ as st hr hgu I.env0 b r S ra h) fun r s' hq => ?_)
  cases r with
  | error e => exact L2.passes_call tk (fun _ _ _ _ q => q) pins σ H s e s' I hq
  | ok fl =>
    cases fl with
    | ret u => exact I.after hq
    | next => exact hq.elim
    | brk => exact hq.elim
    | cont => exact hq.elim
/-- what a call is read as -/
theorem cal_run {m : Bool} {pins : List (Addr × Obj)} {σ : Sg} {H : Hp} {s : Shared} {Q : VK} {us : List Value} {vs : List V} {O : Addr → Prop} {ρ : Nat → Addr} {as : List Vl} {st : Sr} (Fg : FnG cl C.prog C.w C.K C.mg C.base k f fd ps g) (hr : Room k C.A) (hgu : C.A.guards = some []) (hb : L2.Binds C.K fd ps []) (tk : L2.Takes C fun cls d _ H => E cls d H)
    (hl : ∀ as st, g as st ≠ .no → as.length = ps.length) (I : Inv C pins σ H s) (r : Vals vs us) (S : RelS C.K O ρ H st) (ra : Reps C.K O ρ st H as vs) (h : End C.K (WE cl E) O (RpV C.K O) ρ st H (callW g m as st) Q) :
    wpAny (model C.prog C.w) C.A (call (.ref f) us) (EP C pins σ Q) C.xe s := by
  obtain ⟨O2, ρ2, as2, l, S2, ra2, hn, h2⟩ := callW_ok S ra h
  exact run_g Fg hr hgu hb tk hl I r S2 ra2 hn h2
theorem xCal {m : Bool} {T0 T1 : T} (Fg : FnG cl C.prog C.w C.K C.mg C.base k f fd ps g) (hr : Room k C.A) (hgu : C.A.guards = some []) (hb : L2.Binds C.K fd ps []) (tk : L2.Takes C fun cls d _ H => E cls d H)
    (hl : ∀ as st, g as st ≠ .no → as.length = ps.length) (hg : Gl C x) (hm : C.mg x = some (.ref f)) (hk : PySem.W.keepIn C.K (.ref f) = true) (hdb : (x == ("__debug__" : Str)) = false) (hs : ns T1 = true) (ha : PA C (toE T0 :: toEs T1) (TrA C.K (WE cl E) fs)) :
    PE C (.Call (.Name x p) (toE T0 :: toEs T1) [] pos) (TrE C.K (WE cl E) fun e s => (fs e s).bd fun vs s => callW g m vs s) := by
  refine ⟨fun pins s σ H Q I ⟨O, ρ, e, st, R, h⟩ => ?_⟩
  refine wpAny_Call_Name_kw (L2.ld_glob I hg hm ?_ hdb)
  refine PySem.W.callWith_K (h₀ := C.base) I.ok.mod.kin hk (L2.thn (ha.run pos pins s σ H (fun vs H1 => ∃ ρ1 st1 as, RelS C.K O ρ1 H1 st1 ∧ Reps C.K O ρ1 st1 H1 as vs ∧ End C.K (WE cl E) O (RpV C.K O) ρ1 st1 H1 (callW g m as st1) Q) I ⟨O, ρ, e, st, R, End.bd R.S h fun xs st1 ρ1 H1 vs _ s1 S1 r1 h1 => ⟨ρ1, st1, xs, S1, r1, h1⟩⟩) fun us s1 ⟨vs, H1, I1, r, ρ1, st1, as, S1, ra, h1⟩ => ⟨I1.kIn, ?_⟩) (star_cons _ _ _) (by rw [back_any]; exact ns_star _ hs _)
  exact cal_run Fg hr hgu hb tk hl I1 r S1 ra h1
theorem xCal0 {m : Bool} (Fg : FnG cl C.prog C.w C.K C.mg C.base k f fd ps g) (hr : Room k C.A) (hgu : C.A.guards = some []) (hb : L2.Binds C.K fd ps []) (tk : L2.Takes C fun cls d _ H => E cls d H)
    (hl : ∀ as st, g as st ≠ .no → as.length = ps.length) (hg : Gl C x) (hm : C.mg x = some (.ref f)) (hk : PySem.W.keepIn C.K (.ref f) = true) (hdb : (x == ("__debug__" : Str)) = false) (hf : ∀ e s, fs e s = .ok [] s) :
    PE C (.Call (.Name x p) [] [] pos) (TrE C.K (WE cl E) fun e s => (fs e s).bd fun vs s => callW g m vs s) := by
  refine ⟨fun pins s σ H Q I ⟨O, ρ, e, st, R, h⟩ => ?_⟩
  refine wpAny_Call_Name_kw (L2.ld_glob I hg hm ?_ hdb)
  dsimp only at h
  rw [hf] at h
  exact PySem.W.callWith_K0 I.kIn hk (cal_run (us := []) (vs := []) Fg hr hgu hb tk hl I .nil R.S .nil h)
end
/-- a def by its body -/
theorem fn_g {cl : Nat → Value} {Pr : Program} {w : World} {K : Fg} {mg : Str → Option Value} {base : Heap} {k : Nat} {f : Addr} {name qual : Str} {params : Arguments} {body : List Stmt} {scope : Scope} {dV kV doc pm cdv ct oc : Value} {an od : Option Addr}
    {osl : Array (Option Value)} {N ps : List Str} {g : En → Sr → X} {mm : Nat} (lk : K.lookup f = some ⟨oc, od, .func (PySem.W.fnOf name qual params body scope dV kV doc pm an cdv ct), osl⟩) (hcd : PySem.W.codeIn K cdv qual = true) (S : L2.FnScope N ps scope) (hm : N.length = mm)
    (hbody : ∀ (A : Around) (outer : List Env) (s : Shared) (H : Hp) (E : XK), Room k (A.deeper (envOfC qual scope s.heap.objs.size f cdv)) → A.guards = some [] →
      PSs (L2.cxOf (L2.CX Pr w) Pr w K mg base N qual scope f cdv A outer s H E) body (TrS K (WE cl E) g)) :
    FnG cl Pr w K mg base (k + 1) f (PySem.W.fnOf name qual params body scope dV kV doc pm an cdv ct) ps (fun vs st => if vs.length = ps.length then endX (g (vs.map some ++ List.replicate (mm - ps.length) none) st) else .no) := by
  refine ⟨fun A outer s H args us vs Q E O ρ as st hr hgu e0 hb r RS ra h => ?_⟩
  split at h
  rotate_left
  · exact h.elim
  rename_i hlen
  have hl : vs.length = ps.length := by rw [← ra.len]; exact hlen
  have KX : K.In s.heap := e0.mod.kin.keeps fun b o e => (e0.bs b o e).1
  have lim : s.heap.NoLimit := e0.mod.nolimit.keeps fun b o e => (e0.bs b o e).1
  have hkind : ∀ y ∈ ps.zip us, scope.names.lookup y.1 = some .local ∨ (scope.names.lookup y.1 = some .cell ∧ ((cellsFrom (s.heap.objs.size + 1) scope.names []).lookup y.1).isSome = true) := fun ⟨n, v⟩ hy => by
    rcases S.par n (List.of_mem_zip hy).1 with q | q
    · exact .inl q
    · exact .inr ⟨q, PySem.W.cellsFrom_some _ _ _ (.inl q)⟩
  refine codeAny_call_function hr.depth (KX _ _ lk) rfl S.co S.gen rfl (PySem.W.codeRec_of KX hcd) (hb _ _ _ _ ?_)
  refine wpAny_newFunctionEnv_cells S.kind hkind fun env he s1 x => ?_
  subst he
  refine ⟨lim.keeps x.toInCall.keep, codeAny_func ?_⟩
  have I : Inv (L2.cxOf (L2.CX Pr w) Pr w K mg base N qual scope f cdv A outer s H E) [] (L2.start N vs) H s1 := L2.inv_start S hr.hd e0 hl r x
  have hE : RelE K O ρ (L2.start N vs) H (as.map some ++ List.replicate (mm - ps.length) none) st := by
    have lp : ps.length ≤ N.length := by have := congrArg List.length S.pre; rw [List.length_take] at this; omega
    refine ⟨by unfold L2.start; simp [hl, hlen, hm], fun i y hy => ?_⟩
    by_cases hi : i < as.length
    · rw [List.getElem?_append_left (by simpa using hi)] at hy
      have hv : ∀ {as : List Vl} {vs : List V}, Reps K O ρ st H as vs → ∀ (i : Nat) (y : Vl), as[i]? = some y → ∃ v, vs[i]? = some v ∧ Rep K O ρ st H y v := by
        intro as vs r
        induction r with
        | nil => intro i y h; simp at h
        | cons h _ ih =>
          intro i y hy
          cases i with
          | zero => simp at hy; subst hy; exact ⟨_, rfl, h⟩
          | succ i => exact ih i y (by simpa using hy)
      have hy' : as[i]? = some y := by
        rw [List.getElem?_map] at hy
        obtain ⟨z, h1, h2⟩ := Option.map_eq_some_iff.mp hy
        cases h2; exact h1
      obtain ⟨v, h1, h2⟩ := hv ra i y hy'
      refine ⟨v, ?_, h2⟩
      unfold L2.start
      rw [List.getElem?_append_left (by rw [List.length_map, ← ra.len]; exact hi), List.getElem?_map, h1]
      rfl
    · rw [List.getElem?_append_right (by simpa using hi), List.getElem?_replicate] at hy
      split at hy <;> cases hy
  have hq : TrS K (WE cl E) g { nx := fun _ H' => Q .non H', rt := Q } (L2.start N vs) H := by
    refine ⟨O, ρ, _, st, ⟨RS, hE⟩, ?_⟩
    cases q : g (as.map some ++ List.replicate (mm - ps.length) none) st with
    | nx e' s' => rw [q] at h; exact fun ρ' σ' H' t R' => h ρ' H' .non t R'.S .non
    | rt v s' => rw [q] at h; exact fun ρ' H' b t R' r => h ρ' H' b t R' r
    | bk e' s' => rw [q] at h; exact h.elim
    | ct e' s' => rw [q] at h; exact h.elim
    | ex c d s' => rw [q] at h; exact h
    | no => rw [q] at h; exact h.elim
  refine wpAny_mono ((hbody A outer s H E (hr.deeper _) hgu).run [] s1 (L2.start N vs) H _ I hq) (fun fl s' hs => ?_) fun e s' hs => hs
  have fin : ∀ {σ' : Sg} {H' : Hp} {v : V} {u : Value}, Inv (L2.cxOf (L2.CX Pr w) Pr w K mg base N qual scope f cdv A outer s H E) [] σ' H' s' → RelV v u → Q v H' → CE outer Pr w H s Q u s' :=
    fun {σ' H' v u} J rv q => ⟨v, H', J.os, J.bare, J.base, J.hok, rv, q⟩
  cases fl with
  | ret u =>
    obtain ⟨v, σ', H', J, rv, q⟩ := hs
    exact fin J rv q
  | next =>
    obtain ⟨σ', H', J, q⟩ := hs
    exact fin (v := V.non) (u := Value.none) J rfl q
  | brk =>
    obtain ⟨_, _, _, q⟩ := hs
    exact q.elim
  | cont =>
    obtain ⟨_, _, _, q⟩ := hs
    exact q.elim
end Mi
end
section
set_option Elab.async false
set_option linter.all false
set_option maxRecDepth 100000
set_option maxHeartbeats 1000000
/-! M17: chains, stars, assignments of tuples and of comprehensions. -/
namespace Mi
open PySem
open L2 (V HO Hp upd upd_same upd_ne SqL SqT Rd Cx Inv PE PT PA PS PSs PG PGs PI TE TT TA TS TG TGs TI It VK XK Ends RelV Vals ne_of_none OpR R2 EP CallR UnR IxR SlR TruR Gl Vis Loc Itl Itt Itr wipe)
section
variable {C : Cx} {W : Nat → Option Addr → Hp → Prop} {a b c : Expr} {es : List Expr} {fa fb fc : En → Sr → R Vl} {fs : En → Sr → R (List Vl)} {pos : Pos}
theorem lnk_ok {O : Addr → Prop} {ρ : Nat → Addr} {st : Sr} {H : Hp} {o : CmpOp} {x y : Vl} {u v : V} {k : Bool} {Q : VK} (S : RelS C.K O ρ H st) (h : lnk o x y st = some k) (rx : Rep C.K O ρ st H x u) (ry : Rep C.K O ρ st H y v) (q : Q (.bl k) H) : rC C.K o u v H Q := by
  unfold lnk at h
  split at h
  · rename_i p q' e1 e2
    exact ⟨O, ρ, st, p, q', k, S, dd_rd S rx e1, dd_rd S ry e2, h, q⟩
  · cases h
theorem chain_imp {o q : CmpOp} {σ : Sg} {H : Hp} {Q : VK} (h : TrE C.K W (fun e s => (fa e s).bd fun x s => (fb e s).bd fun y s =>
    match lnk o x y s with
    | some true => (fc e s).bd fun w s => R.of ((blP (lnk q y w s)).map .p) s
    | some false => .ok (.p (.bool false)) s
    | none => .no) σ H Q) : L2.tChain (rC C.K o) (rC C.K q) (TrE C.K W fa) (TrE C.K W fb) (TrE C.K W fc) σ H Q := by
  obtain ⟨O, ρ, e, st, R, h⟩ := h
  refine ⟨O, ρ, e, st, R, End.bd R.S h fun x st1 ρ1 H1 u _ s1 S1 r1 h1 => ⟨O, ρ1, e, st1, R.go s1 S1, End.bd S1 h1 fun y st2 ρ2 H2 v _ s2 S2 r2 h2 => ?_⟩⟩
  cases q1 : lnk o x y st2 with
  | none => rw [q1] at h2; exact h2.elim
  | some k =>
    rw [q1] at h2
    refine lnk_ok S2 q1 (Rep.stp S1 s2 r1) r2 ⟨k, rfl, ?_⟩
    cases k with
    | false => exact h2.at S2 (RepP.bl _)
    | true =>
      refine ⟨O, ρ2, e, st2, (R.go s1 S1).go s2 S2, End.bd S2 h2 fun w st3 ρ3 H3 z _ s3 S3 r3 h3 => ?_⟩
      cases q2 : lnk q y w st3 with
      | none => rw [q2] at h3; exact h3.elim
      | some k2 =>
        rw [q2] at h3
        exact lnk_ok S3 q2 (Rep.stp S2 s3 r2) r3 (h3.at S3 (RepP.bl _))
theorem xCm2 (hu : C.A.units + 65 < cLine) {o q : CmpOp} (hm : lastMarks [o, q] [b, c] = false) (ha : PE C a (TrE C.K W fa)) (hb : PE C b (TrE C.K W fb)) (hc : PE C c (TrE C.K W fc)) :
    PE C (.Compare a [o, q] [b, c] pos) (TrE C.K W fun e s => (fa e s).bd fun x s => (fb e s).bd fun y s =>
      match lnk o x y s with
      | some true => (fc e s).bd fun w s => R.of ((blP (lnk q y w s)).map .p) s
      | some false => .ok (.p (.bool false)) s
      | none => .no) :=
  imE (L2.pe_chain (opCmp hu o) (opCmp hu q) ha hb hc hm) fun σ H Q h => chain_imp h
theorem tst_bool {O : Addr → Prop} {ρ : Nat → Addr} {st : Sr} {H : Hp} {m : R Vl} {Q : Bool → Hp → Prop} (hb : ∀ v s, m = .ok v s → ∃ k, v = .p (.bool k)) (h : End C.K W O RpB ρ st H (tst m) Q) : End C.K W O (RpV C.K O) ρ st H m fun x H' => ∃ k, x = .bl k ∧ Q k H' := by
  cases m with
  | ok v s =>
    obtain ⟨k, rfl⟩ := hb v s rfl
    exact fun ρ' H' b s' S' r => ⟨k, RepP.bl_inv r, h ρ' H' k s' S' rfl⟩
  | ex c x s => exact h
  | no => exact h
def allB (m : R Vl) : Prop := ∀ v s, m = .ok v s → ∃ k, v = .p (.bool k)
theorem allB_bd {α : Type} {m : R α} {g : α → Sr → R Vl} (h : ∀ x s, allB (g x s)) : allB (m.bd g) := by
  cases m with
  | ok a s => exact h a s
  | ex c x s => intro v s' q; cases q
  | no => intro v s' q; cases q
theorem allB_lnk {o q : CmpOp} {x y : Vl} {s : Sr} {m : R Vl} : allB (match lnk o x y s with
      | some true => m.bd fun w s => R.of ((blP (lnk q y w s)).map .p) s
      | some false => .ok (.p (.bool false)) s
      | none => .no) := by
  split
  · refine allB_bd fun w s => ?_
    cases q2 : lnk q y w s with
    | none => intro v s' q; cases q
    | some k => intro v s' q; cases q; exact ⟨k, rfl⟩
  · intro v s' q; cases q; exact ⟨false, rfl⟩
  · intro v s' q; cases q
theorem tCm2 (hu : C.A.units + 65 < cLine) {o q : CmpOp} (hm : lastMarks [o, q] [b, c] = false) (ha : PE C a (TrE C.K W fa)) (hb : PE C b (TrE C.K W fb)) (hc : PE C c (TrE C.K W fc)) :
    PT C (.Compare a [o, q] [b, c] pos) (TrT C.K W fun e s => tst ((fa e s).bd fun x s => (fb e s).bd fun y s =>
      match lnk o x y s with
      | some true => (fc e s).bd fun w s => R.of ((blP (lnk q y w s)).map .p) s
      | some false => .ok (.p (.bool false)) s
      | none => .no)) :=
  imT (L2.pt_chain (opCmp hu o) (opCmp hu q) ha hb hc hm) fun σ H Q ⟨O, ρ, e, st, R, h⟩ => chain_imp ⟨O, ρ, e, st, R, tst_bool (allB_bd fun x s => allB_bd fun y s => allB_lnk) h⟩
/-- [*a, ..] -/
theorem aStr {T0 : T} {p : Pos} (ha : PE C (toE T0) (TrE C.K W fa)) (hr : PA C es (TrA C.K W fs)) : PA C (.Starred (toE T0) p :: es) (TrA C.K W fun e s => (fa e s).bd fun v s => match (dd v s).bind seqP with
    | some xs => (fs e s).bd fun vs s => .ok (xs.map .p ++ vs) s
    | none => .no) :=
  imA (StX.pa_star ha hr rfl) fun σ H Q ⟨O, ρ, e, st, R, h⟩ => ⟨O, ρ, e, st, R, End.bd R.S h fun x st1 ρ1 H1 v _ s1 S1 r1 h1 => by
    cases q : dd x st1 with
    | none => rw [q] at h1; exact h1.elim
    | some d =>
      rw [q, Option.bind_some] at h1
      have rd := dd_rd S1 r1 q
      cases d with
      | list ds =>
        obtain ⟨a, vs, rfl, l, rr⟩ := rd.list
        refine ⟨a, vs, rfl, .inr l.sq, O, ρ1, e, st1, R.go s1 S1, End.bd S1 h1 fun y st2 ρ2 H2 u _ s2 S2 r2 h2 => h2.at S2 (Reps.app (ReqP.reps (rr.stp S1 s2)) r2)⟩
      | tuple ds =>
        obtain ⟨a, vs, rfl, l, rr⟩ := rd.tup
        refine ⟨a, vs, rfl, .inl l, O, ρ1, e, st1, R.go s1 S1, End.bd S1 h1 fun y st2 ρ2 H2 u _ s2 S2 r2 h2 => h2.at S2 (Reps.app (ReqP.reps (rr.stp S1 s2)) r2)⟩
      | _ => exact h1.elim⟩
end
end Mi
end
section
set_option Elab.async false
set_option linter.all false
set_option maxRecDepth 100000
set_option maxHeartbeats 1000000
/-! M18: the order of the stores of a tuple. -/
namespace Mi
open PySem
open L2 (V HO Hp upd upd_same upd_ne SqL SqT Rd Cx Inv PE PT PA PS PSs PG PGs PI TE TT TA TS TG TGs TI It VK XK Ends RelV Vals ne_of_none OpR R2 EP CallR UnR IxR SlR TruR Gl Vis Loc Itl Itt Itr wipe)
def isStar : Expr → Bool
  | .Starred .. => true
  | _ => false
/-- the names of the targets that are plain locals on the first one's line -/
def swNames (sc : Scope) (ts : List Expr) : List Str := ts.filterMap fun
    | .Name id pos => if sc.names.lookup id == some .local && pos.line == (ts.head?.map (·.pos.line)).getD 0 then some id else none
    | _ => none
def swNone (sc : Scope) (ts vs : List Expr) : Bool :=
  (!(ts.length == 2 || ts.length == 3) || vs.length != ts.length) || vs.any isStar ||
  ((swNames sc ts).length != ts.length || (swNames sc ts).eraseDups.length != (swNames sc ts).length) || vs.all (foldedForSure 8)
def swSome (sc : Scope) (ts vs : List Expr) : Bool :=
  !(!(ts.length == 2 || ts.length == 3) || vs.length != ts.length) && !vs.any isStar &&
  !((swNames sc ts).length != ts.length || (swNames sc ts).eraseDups.length != (swNames sc ts).length) && !vs.all (foldedForSure 8) && !vs.all (constantsAlone 8)
theorem sw_eq {env : Env} {ts vs : List Expr} {k k2 : Nat} {p p2 : Pos} (hk : env.scope.kind = .function) : swappedStores [.Tuple ts k p] (.Tuple vs k2 p2) env =
    if (!(ts.length == 2 || ts.length == 3) || vs.length != ts.length) = true then pure none else
    if vs.any isStar = true then pure none else
    if ((swNames env.scope ts).length != ts.length || (swNames env.scope ts).eraseDups.length != (swNames env.scope ts).length) = true then pure none else
    if vs.all (foldedForSure 8) = true then pure none else
    if vs.all (constantsAlone 8) = true then (do unsupported "assign.tuple-of-constant-expressions:order-of-the-stores"; pure (some (swNames env.scope ts))) else pure (some (swNames env.scope ts)) := by
  have hb : (env.blockKind != .function) = false := by unfold Env.blockKind; rw [hk]; rfl
  unfold swappedStores
  simp only [hb, Bool.or_false]
  rfl
theorem sw_none {env : Env} {ts vs : List Expr} {k k2 : Nat} {p p2 : Pos} (hk : env.scope.kind = .function) (h : swNone env.scope ts vs = true) : swappedStores [.Tuple ts k p] (.Tuple vs k2 p2) env = pure none := by
  rw [sw_eq hk]
  unfold swNone at h
  split
  · rfl
  · rename_i h1
    split
    · rfl
    · rename_i h2
      split
      · rfl
      · rename_i h3
        split
        · rfl
        · rename_i h4
          rw [Bool.not_eq_true] at h1 h2 h3 h4
          rw [h1, h2, h3, h4] at h
          cases h
theorem sw_some {env : Env} {ts vs : List Expr} {k k2 : Nat} {p p2 : Pos} (hk : env.scope.kind = .function) (h : swSome env.scope ts vs = true) : swappedStores [.Tuple ts k p] (.Tuple vs k2 p2) env = pure (some (swNames env.scope ts)) := by
  rw [sw_eq hk]
  unfold swSome at h
  simp only [Bool.and_eq_true, Bool.not_eq_true'] at h
  obtain ⟨⟨⟨⟨h1, h2⟩, h3⟩, h4⟩, h5⟩ := h
  rw [h1, h2, h3, h4, h5]
  rfl
section
variable {C : Cx} {W : Nat → Option Addr → Hp → Prop} {a b c : Expr} {es : List Expr} {fa fb fc : En → Sr → R Vl} {fs : En → Sr → R (List Vl)} {pos : Pos}
theorem setset {K : Fg} {O : Addr → Prop} {ρ : Nat → Addr} {σ : Sg} {H : Hp} {e : En} {st : Sr} {i j : Nat} {x y : Vl} {u v : V} (E : RelE K O ρ σ H e st) (r : Rep K O ρ st H x u) (q : Rep K O ρ st H y v) : RelE K O ρ ((σ.set i (some u)).set j (some v)) H ((e.set i (some x)).set j (some y)) st := (E.set r i).set q j
theorem sPar2 {i j : Nat} {x y : Str} {px py pt : Pos} {kt k2 : Nat} {pt2 : Pos} (hc : C.calm = true) (hN : C.N.Nodup) (hi : C.N[i]? = some x) (hj : C.N[j]? = some y) (hij : i ≠ j)
    (hx : C.env.scope.names.lookup x = some .local) (hy : C.env.scope.names.lookup y = some .local) (ha : PA C [a, b] (TrA C.K W fs)) (hw : swappedStores [.Tuple [.Name x px, .Name y py] kt pt] (.Tuple [a, b] k2 pt2) C.env = pure (some [x, y])) {gl : List P} {F : Nat → List Vl → Sr → R Vl} :
    PS C (.Assign [.Tuple [.Name x px, .Name y py] kt pt] (.Tuple [a, b] k2 pt2) pos) (TrS C.K W fun e s => (fs e s).bx fun vs s => (sem gl F (.cons (.v i x px) (.cons (.v j y py) .nil))).ks vs e s) :=
  imS (L2.ps_par hc hN hi hj hij hx hy ha hw) fun D σ H ⟨O, ρ, e, st, R, h⟩ => ⟨O, ρ, e, st, R, End.bx R.S h fun xs st1 ρ1 H1 vs _ s1 S1 r1 h1 => by
    match xs, r1, h1 with
    | [], _, h1 => exact h1.elim
    | [_], _, h1 => exact h1.elim
    | _ :: _ :: _ :: _, _, h1 => exact h1.elim
    | [_, _], .cons r (.cons q .nil), h1 => exact ⟨_, _, rfl, h1 ρ1 _ H1 .rfl ⟨S1, setset (R.go s1 S1).E r q⟩⟩⟩
theorem sPar3 {i j l : Nat} {x y z : Str} {px py pz pt : Pos} {kt k2 : Nat} {pt2 : Pos} (hc : C.calm = true) (hN : C.N.Nodup) (hi : C.N[i]? = some x) (hj : C.N[j]? = some y) (hl : C.N[l]? = some z) (hij : i ≠ j) (hil : i ≠ l) (hjl : j ≠ l)
    (hx : C.env.scope.names.lookup x = some .local) (hy : C.env.scope.names.lookup y = some .local) (hz : C.env.scope.names.lookup z = some .local) (ha : PA C [a, b, c] (TrA C.K W fs)) (hw : swappedStores [.Tuple [.Name x px, .Name y py, .Name z pz] kt pt] (.Tuple [a, b, c] k2 pt2) C.env = pure (some [x, y, z])) {gl : List P} {F : Nat → List Vl → Sr → R Vl} :
    PS C (.Assign [.Tuple [.Name x px, .Name y py, .Name z pz] kt pt] (.Tuple [a, b, c] k2 pt2) pos) (TrS C.K W fun e s => (fs e s).bx fun vs s => (sem gl F (.cons (.v i x px) (.cons (.v j y py) (.cons (.v l z pz) .nil)))).ks vs e s) :=
  imS (L2.ps_par3 hc hN hi hj hl hij hil hjl hx hy hz ha hw) fun D σ H ⟨O, ρ, e, st, R, h⟩ => ⟨O, ρ, e, st, R, End.bx R.S h fun xs st1 ρ1 H1 vs _ s1 S1 r1 h1 => by
    match xs, r1, h1 with
    | [], _, h1 => exact h1.elim
    | [_], _, h1 => exact h1.elim
    | [_, _], _, h1 => exact h1.elim
    | _ :: _ :: _ :: _ :: _, _, h1 => exact h1.elim
    | [_, _, _], .cons r (.cons q (.cons t .nil)), h1 => exact ⟨_, _, _, rfl, h1 ρ1 _ H1 .rfl ⟨S1, ((setset (R.go s1 S1).E r q).set t l)⟩⟩⟩
/-- a result that only goes on -/
def onlyN (r : X) : Prop := (∀ e' s', r ≠ .bk e' s' ∧ r ≠ .ct e' s') ∧ ∀ w s', r ≠ .rt w s'
theorem EndS.toN {K : Fg} {O : Addr → Prop} {ρ : Nat → Addr} {st : Sr} {H : Hp} {r : X} {D : Ends} (h : EndS K W O ρ st H r D) (o : onlyN r) : EndS K W O ρ st H r { nx := D.nx, rt := fun _ _ => False } := by
  cases r with
  | nx e' s' => exact h
  | bk e' s' => exact absurd rfl (o.1 e' s').1
  | ct e' s' => exact absurd rfl (o.1 e' s').2
  | rt a s' => exact absurd rfl (o.2 a s')
  | ex c x s' => exact h
  | no => exact h
/-- a tuple of targets, a written tuple, stored from the left -/
theorem sPaG {ts vs : List Expr} {kt k2 n : Nat} {pt pt2 : Pos} {fks : List Vl → En → Sr → X} (hc : C.calm = true) (ha : PA C vs (TrA C.K W fs)) (hg : PGs C ts (TrGs C.K W fks)) (hn : (assignEach ts C.env).length = n) (hst : (assignEach ts C.env).findIdx? (·.1) = none)
    (hw : swappedStores [.Tuple ts kt pt] (.Tuple vs k2 pt2) C.env = pure none) (hl : ∀ e s xs s', fs e s = .ok xs s' → xs.length = n) (hz : n ≤ 1000) (hk : ∀ vs e s, onlyN (fks vs e s)) :
    PS C (.Assign [.Tuple ts kt pt] (.Tuple vs k2 pt2) pos) (TrS C.K W fun e s => (fs e s).bx fun vs s => fks vs e s) :=
  imS (L2.ps_asg (L2.pe_tup ha) (L2.pg_tup hc hg hn hst) rfl hw rfl) fun D σ H ⟨O, ρ, e, st, R, h⟩ => ⟨O, ρ, e, st, R, End.bx R.S h fun xs st1 ρ1 H1 vs q s1 S1 r1 h1 => by
    have l1 := hl _ _ _ _ q
    have l2 : xs.length = vs.length := Reps.len r1
    refine ⟨lim_line (by unfold lim; omega), fun p hp => ⟨p, vs, rfl, .of upd_same, by omega, O, ρ1, e, st1, xs, (R.go s1 S1).go (Stp.new S1 hp) (S1.new hp), Reps.stp S1 (Stp.new S1 hp) r1, ?_⟩⟩
    exact EndS.toN (EndS.later h1 S1 (S1.new hp) (Stp.new S1 hp)) (hk _ _ _)⟩
end
end Mi
end
section
set_option Elab.async false
set_option linter.all false
set_option maxRecDepth 100000
set_option maxHeartbeats 1000000
/-! D1: dicts. -/
namespace Mi
open PySem
open L2 (V HO Hp upd upd_same upd_ne SqL SqT Rd Cx Inv PE PT PA PS PSs PG PGs PI TE TT TA TS TG TGs TI It VK XK Ends RelV Vals ne_of_none OpR R2 EP CallR UnR IxR SlR TruR Gl Vis Loc Itl Itt Itr wipe Key valV putK DGet DPut)
theorem dk_key (a b : Key) : dkEq (keyV a) (keyV b) = decide (a = b) := by
  cases a <;> cases b <;> simp [dkEq, keyV]
theorem key_ex {v : Vl} {k : P} (h : key? v = some k) : ∃ kk, k = keyV kk ∧ v = .p (keyV kk) := by
  unfold key? at h
  split at h
  · rename_i x
    split at h
    · rename_i hk
      cases h
      cases k with
      | int i => exact ⟨.inl i, rfl, rfl⟩
      | str x => exact ⟨.inr x, rfl, rfl⟩
      | _ => cases hk
    · cases h
  · cases h
section
variable {K : Fg} {m : Addr → Prop} {H : Hp} {O : Addr → Prop} {ρ : Nat → Addr} {st : Sr}
theorem key_rep {kk : Key} {y : V} (h : RepP K m H (keyV kk) y) : y = L2.kV kk := by
  cases kk with
  | inl i => exact h.int_inv
  | inr x => exact h.str_inv
theorem rep_key {kk : Key} : RepP K m H (keyV kk) (L2.kV kk) := by
  cases kk with
  | inl i => exact .int i
  | inr x => exact .str x
theorem KReq.get (kk : Key) : ∀ {kvs : List (P × P)} {ks : List (Key × V)}, KReq K m H kvs ks → (dget kvs (keyV kk) = none ∧ valV ks kk = none) ∨ ∃ x v, dget kvs (keyV kk) = some x ∧ valV ks kk = some v ∧ RepP K m H x v
  | _, _, .nil => .inl ⟨rfl, rfl⟩
  | _, _, .cons (x := x) (y := y) (k := k) (v := v) (r := r) (s := s) e h t => by
    subst e
    by_cases q : k = kk
    · subst q
      exact .inr ⟨y, v, by simp [dget, dk_key], by simp [valV], h⟩
    · have ih := KReq.get kk t
      have e1 : dget ((keyV k, y) :: r) (keyV kk) = dget r (keyV kk) := by simp [dget, dk_key, q]
      have e2 : valV ((k, v) :: s) kk = valV s kk := L2.valV_neg q
      rw [e1, e2]
      exact ih
theorem KReq.app : ∀ {kvs ls : List (P × P)} {ks us : List (Key × V)}, KReq K m H kvs ks → KReq K m H ls us → KReq K m H (kvs ++ ls) (ks ++ us)
  | _, _, _, _, .nil, t => t
  | _, _, _, _, .cons e h r, t => .cons e h (KReq.app r t)
theorem KReq.rep (kk : Key) {x : P} {v : V} (hx : RepP K m H x v) : ∀ {kvs : List (P × P)} {ks : List (Key × V)}, KReq K m H kvs ks → KReq K m H (kvs.map fun q => if dkEq q.1 (keyV kk) then (q.1, x) else q) (ks.map fun q => if q.1 = kk then (q.1, v) else q)
  | _, _, .nil => .nil
  | _, _, .cons (k := k) e h t => by
    subst e
    rw [List.map_cons, List.map_cons]
    by_cases q : k = kk
    · subst q
      simp only [dk_key, decide_true, if_true]
      exact .cons rfl hx (KReq.rep _ hx t)
    · simp only [dk_key, q, decide_false, if_false]
      exact .cons rfl h (KReq.rep kk hx t)
theorem KReq.put {kvs : List (P × P)} {ks : List (Key × V)} (h : KReq K m H kvs ks) (kk : Key) {x : P} {v : V} (hx : RepP K m H x v) : KReq K m H (dput kvs (keyV kk) x) (putK ks kk v) := by
  unfold dput putK
  rw [L2.valV_any]
  rcases h.get kk with ⟨q1, q2⟩ | ⟨y, u, q1, q2, _⟩
  · rw [q1, q2]
    exact h.app (.cons rfl hx .nil)
  · rw [q1, q2]
    exact h.rep kk hx
theorem KReq.len : ∀ {kvs : List (P × P)} {ks : List (Key × V)}, KReq K m H kvs ks → kvs.length = ks.length
  | _, _, .nil => rfl
  | _, _, .cons _ _ t => by simp [t.len]
theorem KReq.at : ∀ {kvs : List (P × P)} {ks : List (Key × V)} {i : Nat} {q : P × P}, KReq K m H kvs ks → kvs[i]? = some q → ∃ kk v, ks[i]? = some (kk, v) ∧ q.1 = keyV kk ∧ RepP K m H q.2 v
  | _, _, _, _, .nil, h => by simp at h
  | _, _, 0, _, .cons e h r, q => by simp at q; subst q; exact ⟨_, _, rfl, e, h⟩
  | _, _, i + 1, q, .cons e h r, z => by
    obtain ⟨kk, v, h1, h2, h3⟩ := KReq.at (i := i) (q := q) r (by simpa using z)
    exact ⟨kk, v, by simpa using h1, h2, h3⟩
theorem dat_ok {o : Vl} {kvs : List (P × P)} {x : V} (S : RelS K O ρ H st) (h : dat o st = some kvs) (r : Rep K O ρ st H o x) : ∃ l ks, x = .ref l ∧ Rd H l (.dK ks) ∧ KReq K (Mt O ρ st) H kvs ks := by
  unfold dat at h
  split at h
  · rename_i n
    obtain ⟨hn, rfl⟩ := r
    split at h
    · rename_i z kvs' q
      cases h
      obtain ⟨w, f1, ks, f2, f3⟩ := S.ob n _ q
      refine ⟨_, ks, rfl, ?_, f3⟩
      rcases f2 with ⟨_, rfl⟩ | ⟨_, o, rfl⟩
      · exact .inl f1
      · exact .inr ⟨o, f1⟩
    · cases h
  · cases h
theorem dix_ok {o i : Vl} {w : P} {x y : V} (S : RelS K O ρ H st) (h : dixV o i st = some w) (ro : Rep K O ρ st H o x) (ri : Rep K O ρ st H i y) : ∃ l z, x = .ref l ∧ DGet H l y (some z) ∧ RepP K (Mt O ρ st) H w z := by
  unfold dixV at h
  split at h
  · rename_i kvs k q1 q2
    obtain ⟨l, ks, rfl, d1, d2⟩ := dat_ok S q1 ro
    obtain ⟨kk, rfl, rfl⟩ := key_ex q2
    have ey := key_rep ri
    subst ey
    rcases d2.get kk with ⟨z1, _⟩ | ⟨x', v, z1, z2, z3⟩
    · rw [h] at z1; cases z1
    · rw [h] at z1
      cases z1
      exact ⟨l, v, rfl, .inl ⟨ks, kk, d1, rfl, z2.symm⟩, z3⟩
  · cases h
theorem din_ok {n : Bool} {o i : Vl} {b : Bool} {x y : V} (S : RelS K O ρ H st) (h : dinV n i o st = some b) (ro : Rep K O ρ st H o x) (ri : Rep K O ρ st H i y) : ∃ l w, x = .ref l ∧ DGet H l y w ∧ b = (w.isSome != n) := by
  unfold dinV at h
  split at h
  · rename_i kvs k q1 q2
    cases h
    obtain ⟨l, ks, rfl, d1, d2⟩ := dat_ok S q1 ro
    obtain ⟨kk, rfl, rfl⟩ := key_ex q2
    have ey := key_rep ri
    subst ey
    refine ⟨l, valV ks kk, rfl, .inl ⟨ks, kk, d1, rfl, rfl⟩, ?_⟩
    rcases d2.get kk with ⟨z1, z2⟩ | ⟨x', v, z1, z2, z3⟩ <;> rw [z1, z2] <;> rfl
  · cases h
theorem dict_upd {n : Nat} {kvs ls : List (P × P)} {ks : List (Key × V)} (S : RelS K O ρ H st) (hn : st[n]? = some (.dp 0 kvs)) (r : KReq K (Mt O ρ st) H ls ks) :
    Stp ρ st H ρ (st.set n (.dp 0 ls)) (L2.upd H (ρ n) (.dK ks)) ∧ RelS K O ρ (L2.upd H (ρ n) (.dK ks)) (st.set n (.dp 0 ls)) := by
  have s : Stp ρ st H ρ (st.set n (.dp 0 ls)) (L2.upd H (ρ n) (.dK ks)) := Stp.upd hn rfl (fun _ z => nomatch z) (fun _ _ z => nomatch z) (fun _ _ _ => ⟨_, _, rfl⟩) S
  exact ⟨s, S.upd hn s ⟨ks, .inl ⟨rfl, rfl⟩, r.map fun h => h.stp S s⟩⟩
theorem dput_ok {o i v : Vl} {st' : Sr} {x y u : V} (S : RelS K O ρ H st) (h : dputV o i v st = some st') (ro : Rep K O ρ st H o x) (ri : Rep K O ρ st H i y) (rv : Rep K O ρ st H v u) :
    ∃ l ks kk, x = .ref l ∧ y = L2.kV kk ∧ H l = some (.dK ks) ∧ ks.length < sizeLine ∧ Stp ρ st H ρ st' (L2.upd H l (.dK (putK ks kk u))) ∧ RelS K O ρ (L2.upd H l (.dK (putK ks kk u))) st' ∧ (dixV o i st = none → valV ks kk = none) := by
  unfold dputV at h
  split at h
  · rename_i n k x' q1
    obtain ⟨hn, rfl⟩ := ro
    split at h
    · rename_i kvs q2
      split at h
      · rename_i hl
        cases h
        obtain ⟨w, f1, ks, f2, f3⟩ := S.ob n _ q2
        obtain ⟨kk, rfl, rfl⟩ := key_ex q1
        have ey := key_rep ri
        subst ey
        rcases f2 with ⟨_, rfl⟩ | ⟨z, _⟩
        · obtain ⟨b1, b2⟩ := dict_upd S q2 (f3.put kk rv)
          refine ⟨_, ks, kk, rfl, rfl, f1, ?_, b1, b2, fun hd => ?_⟩
          · rw [← f3.len]
            exact Nat.lt_of_lt_of_le hl (by decide +kernel)
          · simp only [dixV, dat, q2, q1] at hd
            rcases f3.get kk with ⟨_, z2⟩ | ⟨_, _, z1, _, _⟩
            · exact z2
            · rw [hd] at z1; cases z1
        · exact absurd rfl z
      · cases h
    · cases h
  · cases h
end
section
variable {C : Cx} {W : Nat → Option Addr → Hp → Prop} {a b c : Expr} {es : List Expr} {fa fb fc : En → Sr → R Vl} {fs : En → Sr → R (List Vl)} {pos : Pos} {tg : Expr}
theorem xDix (hu : C.A.units + 65 < cLine) (ha : PE C a (TrE C.K W fa)) (hb : PE C b (TrE C.K W fb)) (hs : L2.PlainIx b) : PE C (.Subscript a b pos) (TrE C.K W fun e s => (fa e s).bd fun o s => (fb e s).bd fun i s => R.of ((dixV o i s).map .p) s) :=
  imE (L2.pe_dget (by omega) ha hb hs) fun σ H Q ⟨O, ρ, e, st, R, h⟩ => ⟨O, ρ, e, st, R, End.bd R.S h fun x st1 ρ1 H1 v _ s1 S1 r1 h1 => ⟨O, ρ1, e, st1, R.go s1 S1, End.bd S1 h1 fun y st2 ρ2 H2 u _ s2 S2 r2 h2 => by
    cases q : dixV x y st2 with
    | none => rw [q] at h2; exact h2.elim
    | some w =>
      rw [q] at h2
      obtain ⟨l, z, e1, e2, e3⟩ := dix_ok S2 q (Rep.stp S1 s2 r1) r2
      exact ⟨l, z, e1, e2, h2.at S2 e3⟩⟩⟩
theorem cDin (hu : C.A.units + 65 < cLine) {n : Bool} (ha : PE C a (TrE C.K W fa)) (hb : PE C b (TrE C.K W fb)) : L2.PC C (if n then .NotIn else .In) a b (TrE C.K W fun e s => (fa e s).bd fun x s => (fb e s).bd fun o s => R.of ((dinV n x o s).map fun b => .p (.bool b)) s) := by
  have im : ∀ {op : CmpOp} {t t' : TE}, L2.PC C op a b t' → (∀ σ H Q, t σ H Q → t' σ H Q) → L2.PC C op a b t := fun h k => ⟨fun pins s σ H Q I q => h.run pins s σ H Q I (k σ H Q q)⟩
  cases n with
  | false =>
    refine im (L2.pc_din (by omega) ha hb) fun σ H Q ⟨O, ρ, e, st, R, h⟩ => ⟨O, ρ, e, st, R, End.bd R.S h fun x st1 ρ1 H1 v _ s1 S1 r1 h1 => ⟨O, ρ1, e, st1, R.go s1 S1, End.bd S1 h1 fun y st2 ρ2 H2 u _ s2 S2 r2 h2 => ?_⟩⟩
    cases q : dinV false x y st2 with
    | none => rw [q] at h2; exact h2.elim
    | some w =>
      rw [q] at h2
      obtain ⟨l, z, e1, e2, e3⟩ := din_ok S2 q r2 (Rep.stp S1 s2 r1)
      refine ⟨l, z, e1, e2, h2.at S2 ?_⟩
      rw [e3]
      cases z <;> exact RepP.bl _
  | true =>
    refine im (L2.pc_dnotin (by omega) ha hb) fun σ H Q ⟨O, ρ, e, st, R, h⟩ => ⟨O, ρ, e, st, R, End.bd R.S h fun x st1 ρ1 H1 v _ s1 S1 r1 h1 => ⟨O, ρ1, e, st1, R.go s1 S1, End.bd S1 h1 fun y st2 ρ2 H2 u _ s2 S2 r2 h2 => ?_⟩⟩
    cases q : dinV true x y st2 with
    | none => rw [q] at h2; exact h2.elim
    | some w =>
      rw [q] at h2
      obtain ⟨l, z, e1, e2, e3⟩ := din_ok S2 q r2 (Rep.stp S1 s2 r1)
      refine ⟨l, z, e1, e2, h2.at S2 ?_⟩
      rw [e3]
      cases z <;> exact RepP.bl _
theorem xDin (hu : C.A.units + 65 < cLine) {n : Bool} (hm : behindInMarks (if n then .NotIn else .In) b = false) (ha : PE C a (TrE C.K W fa)) (hb : PE C b (TrE C.K W fb)) : PE C (.Compare a [if n then .NotIn else .In] [b] pos) (TrE C.K W fun e s => (fa e s).bd fun x s => (fb e s).bd fun o s => R.of ((dinV n x o s).map fun b => .p (.bool b)) s) :=
  L2.pe_cmp (cDin hu ha hb) hm
theorem tDin (hu : C.A.units + 65 < cLine) {n : Bool} (hm : behindInMarks (if n then .NotIn else .In) b = false) (ha : PE C a (TrE C.K W fa)) (hb : PE C b (TrE C.K W fb)) : PT C (.Compare a [if n then .NotIn else .In] [b] pos) (TrT C.K W fun e s => tst ((fa e s).bd fun x s => (fb e s).bd fun o s => R.of ((dinV n x o s).map fun b => .p (.bool b)) s)) :=
  imT (L2.pt_cmp (cDin hu ha hb) hm) fun σ H Q ⟨O, ρ, e, st, R, h⟩ => by
    simp only [tst] at h
    refine ⟨O, ρ, e, st, R, End.bd R.S h fun x st1 ρ1 H1 v hx s1 S1 r1 h1 => ?_⟩
    have hb : ∃ c, x = .p (.bool c) := by
      dsimp only at hx
      cases q1 : fa e st with
      | ok v2 st2 =>
        rw [q1] at hx
        have hx2 : (fb e st2).bd (fun o s => Mi.R.of ((dinV n v2 o s).map fun b => .p (.bool b)) s) = .ok x st1 := hx
        cases q2 : fb e st2 with
        | ok v3 st3 =>
          rw [q2] at hx2
          have hx3 : Mi.R.of ((dinV n v2 v3 st3).map fun b => Vl.p (.bool b)) st3 = .ok x st1 := hx2
          cases q3 : dinV n v2 v3 st3 with
          | some c => rw [q3] at hx3; cases hx3; exact ⟨c, rfl⟩
          | none => rw [q3] at hx3; cases hx3
        | ex c d s => rw [q2] at hx2; cases hx2
        | no => rw [q2] at hx2; cases hx2
      | ex c d s => rw [q1] at hx; cases hx
      | no => rw [q1] at hx; cases hx
    obtain ⟨c, rfl⟩ := hb
    exact ⟨c, RepP.bl_inv r1, h1.at S1 rfl⟩
end
end Mi
end
section
set_option Elab.async false
set_option linter.all false
set_option maxRecDepth 100000
set_option maxHeartbeats 1000000
/-! D2: dicts: stores, methods, written ones, walks. -/
namespace Mi
open PySem PySem.Spec PyProof.Rows
open L2 (V HO Hp upd upd_same upd_ne SqL SqT Rd Cx Inv PE PT PA PS PSs PG PGs PI TE TT TA TS TG TGs TI It VK XK Ends RelV Vals ne_of_none OpR R2 EP CallR UnR IxR SlR TruR Gl Vis Loc Itl Itt Itr wipe Key valV putK DGet DPut mixKind)
section
variable {C : Cx} {W : Nat → Option Addr → Hp → Prop} {a b c : Expr} {es : List Expr} {fa fb fc : En → Sr → R Vl} {fs : En → Sr → R (List Vl)} {pos : Pos} {tg : Expr}
theorem sDstS {q : Pos} (hu : C.A.units + 65 < cLine) (ha : PE C a (TrE C.K W fa)) (hb : PE C b (TrE C.K W fb)) (hc : PE C c (TrE C.K W fc)) (hs : swapsWith c (some (.Subscript a b q)) pos.line C.env = pure false) :
    PS C (.Assign [.Subscript a b q] c pos) (TrS C.K W fun e s => (fc e s).bx fun v s => (fa e s).bx fun o s => (fb e s).bx fun i s => match dputV o i v s with
      | some s => .nx e s
      | none => .no) :=
  imS (L2.ps_dput (by omega) ha hb hc hs) fun D σ H ⟨O, ρ, e, st, R, h⟩ => ⟨O, ρ, e, st, R, End.bx R.S h fun w st1 ρ1 H1 v _ s1 S1 r1 h1 => ⟨O, ρ1, e, st1, R.go s1 S1, End.bx S1 h1 fun x st2 ρ2 H2 u _ s2 S2 r2 h2 => ⟨O, ρ2, e, st2, (R.go s1 S1).go s2 S2, End.bx S2 h2 fun y st3 ρ3 H3 z _ s3 S3 r3 h3 => by
    cases q : dputV x y w st3 with
    | none => rw [q] at h3; exact h3.elim
    | some st' =>
      rw [q] at h3
      obtain ⟨l, ks, kk, e1, e2, e3, e4, t1, t2, _⟩ := dput_ok S3 q (Rep.stp S2 s3 r2) r3 (Rep.stp S2 s3 (Rep.stp S1 s2 r1))
      exact ⟨l, _, e1, .inl ⟨ks, kk, e3, e2, e4, rfl⟩, h3 ρ3 σ _ t1 ⟨t2, ((((R.go s1 S1).go s2 S2).go s3 S3).go t1 t2).E⟩⟩⟩⟩⟩
theorem sDagS {T1 : T} {o : Operator} {q : Pos} (hu : C.A.units + 65 < cLine) (ha : PE C a (TrE C.K W fa)) (hb : PE C (toE T1) (TrE C.K W fb)) (hc : PE C c (TrE C.K W fc))
    (hs : ∀ ov iv new, augStore (toE T1) ov iv new = (do holding [new, ov, iv] (setItem ov iv new); release [new, ov, iv] []; pure .next)) :
    PS C (.AugAssign (.Subscript a (toE T1) q) o c pos) (TrS C.K W fun e s => (fa e s).bx fun l s => (fb e s).bx fun i s => match dixV l i s with
      | some v => (fc e s).bx fun w s => match agV o (.p v) w s with
        | some c => match dputV l i (.p c) s with
          | some s => .nx e s
          | none => .no
        | none => .no
      | none => .no) :=
  imS (L2.ps_daug (by omega) ha hb hc (fun pins s σ H x y v u Q I r1 r2 h => opAug o pins s σ H x y v u Q I r1 r2 h) hs) fun D σ H ⟨O, ρ, e, st, R, h⟩ => ⟨O, ρ, e, st, R, End.bx R.S h fun x st1 ρ1 H1 v _ s1 S1 r1 h1 => ⟨O, ρ1, e, st1, R.go s1 S1, End.bx S1 h1 fun y st2 ρ2 H2 u _ s2 S2 r2 h2 => by
    cases q : dixV x y st2 with
    | none => rw [q] at h2; exact h2.elim
    | some w =>
      rw [q] at h2
      dsimp only at h2
      have r1' := Rep.stp S1 s2 r1
      obtain ⟨l, z, e1, e2, e3⟩ := dix_ok S2 q r1' r2
      refine ⟨l, z, e1, e2, O, ρ2, e, st2, (R.go s1 S1).go s2 S2, End.bx S2 h2 fun y3 st3 ρ3 H3 u3 _ s3 S3 r3 h3 => ?_⟩
      cases q1 : agV o (.p w) y3 st3 with
      | none => rw [q1] at h3; exact h3.elim
      | some cc =>
        rw [q1] at h3
        dsimp only at h3
        cases q2 : dputV x y (.p cc) st3 with
        | none => rw [q2] at h3; exact h3.elim
        | some st4 =>
          rw [q2] at h3
          unfold agV at q1
          split at q1
          · rename_i a' b' w' q4
            cases w'
            refine ⟨Mt O ρ3 st3, _, b', cc, .of (RepP.stp S2 s3 e3), dd_rd S3 r3 q4, q1, fun v5 hv => ?_⟩
            obtain ⟨l', ks, kk, e6, e7, e8, e9, t1, t2, _⟩ := dput_ok (v := .p cc) (u := v5) S3 q2 (Rep.stp S2 s3 r1') (Rep.stp S2 s3 r2) (hv _ _)
            have : l' = l := by rw [e1] at e6; cases e6; rfl
            subst this
            exact ⟨_, .inl ⟨ks, kk, e8, e7, e9, rfl⟩, h3 ρ3 σ _ t1 ⟨t2, ((((R.go s1 S1).go s2 S2).go s3 S3).go t1 t2).E⟩⟩
          · cases q1⟩⟩
/-! methods -/
theorem mSd : L2.MtR C "dict.setdefault" L2.rSetd := by
  intro pins s σ H x vs w us Q I rx rv h
  obtain ⟨a, kvs, k, v, el, rfl, ea, hl, w1, w2⟩ := h
  cases el
  cases (show w = Value.ref a from rx)
  cases rv with
  | cons ry rv =>
    cases rv with
    | cons rd rv =>
      cases rv
      obtain ⟨z, hd, vs0, rel, dd⟩ := L2.dk_of I.hok ea
      have hz : vs0.length ≤ sizeLine := by rw [← rel.length]; exact z
      refine call_meetsIn PySem.F.slot_dict_setdefault dd.typeIs PySem.F.entry_dict_setdefault (PySem.F.args_dict_setdefault_3 _ _ _) (kt_meets_setdefault (mixKind C.prog C.w) _ (L2.kV_is ry) hd _) ⟨vs0, dd, hz, fun u hu => ?_, fun hn h' dd' hs => ?_⟩
      · have rr := rel.val k
        rw [hu] at rr
        cases hv : valV kvs k with
        | none => rw [hv] at rr; exact False.elim rr
        | some x =>
          rw [hv] at rr
          exact (⟨x, H, I.tok _, rr, w1 x hv⟩ : EP C pins σ Q u _)
      · have rr := rel.val k
        rw [hn] at rr
        cases hv : valV kvs k with
        | some x => rw [hv] at rr; exact False.elim rr
        | none =>
          have hl2 : (putK kvs k v).length ≤ sizeLine := by have := L2.length_putK kvs k v; omega
          exact (⟨v, _, L2.d_write (t' := s.toks + 1) I (by rw [ea]; exact True.intro) hs (let ⟨q, _, _, hq, _⟩ := dd'; ⟨q, hq⟩) (L2.dk_new hl2 hd (rel.put k rd) dd'), rd, w2 hv⟩ : EP C pins σ Q _ _)
def rGt : V → List V → Hp → VK → Prop := fun x vs H Q => ∃ (a : Addr) (y : V) (o : Option V), x = .ref a ∧ DGet H a y o ∧ ((vs = [y] ∧ Q (o.getD .non) H) ∨ ∃ d, vs = [y, d] ∧ Q (o.getD d) H)
theorem mGt (hu : C.A.units + 65 < cLine) : L2.MtR C "dict.get" rGt := by
  intro pins s σ H x vs w us Q I rx rv h
  obtain ⟨a, y, o, rfl, g, ⟨rfl, q⟩ | ⟨d, rfl, q⟩⟩ := h
  · cases (show w = Value.ref a from rx)
    cases rv with
    | cons ry rv =>
      cases rv
      exact L2.d_get1 (by omega) I g ry fun w' s3 I3 rw' => ⟨_, H, I3, rw', q⟩
  · cases (show w = Value.ref a from rx)
    cases rv with
    | cons ry rv =>
      cases rv with
      | cons rd rv =>
        cases rv
        exact L2.d_get2 (by omega) I g ry rd fun w' s3 I3 rw' => ⟨_, H, I3, rw', q⟩
theorem dat0_ty {O : Addr → Prop} {ρ : Nat → Addr} {st : Sr} {H : Hp} {o : Vl} {v : V} (S : RelS C.K O ρ H st) (h : dat0 o st = true) (r : Rep C.K O ρ st H o v) : L2.tyV C.K "dict" v H := by
  unfold dat0 at h
  split at h
  · rename_i n
    obtain ⟨hn, rfl⟩ := r
    split at h
    · rename_i kvs q
      obtain ⟨w, f1, ks, f2, f3⟩ := S.ob n _ q
      rcases f2 with ⟨_, rfl⟩ | ⟨z, _⟩
      · exact .inr (.inr (.inl ⟨rfl, .inl ⟨ks, f1⟩⟩))
      · exact absurd rfl z
    · cases h
  · cases h
end
end Mi
end
section
set_option Elab.async false
set_option linter.all false
set_option maxRecDepth 100000
set_option maxHeartbeats 2000000
/-! D3: dicts: methods, written ones, comprehensions, walks. -/
namespace Mi
open PySem
open L2 (V HO Hp upd upd_same upd_ne SqL SqT Rd Cx Inv PE PT PA PS PSs PG PGs PI TE TT TA TS TG TGs TI It VK XK Ends RelV Vals ne_of_none OpR R2 EP CallR UnR IxR SlR TruR Gl Vis Loc Itl Itt Itr wipe Key valV putK DGet DPut mixKind)
section
variable {C : Cx} {W : Nat → Option Addr → Hp → Prop} {a b c : Expr} {es : List Expr} {fa fb fc : En → Sr → R Vl} {fs : En → Sr → R (List Vl)} {pos : Pos} {tg : Expr}
theorem dget_at {H : Hp} {l : Addr} {ks : List (Key × V)} {kk : Key} {r : Option V} (h : H l = some (.dK ks)) (g : DGet H l (L2.kV kk) r) : r = valV ks kk := by
  rcases g with ⟨ls, k, e, ey, q⟩ | ⟨ls, k, b, e, ey, _⟩
  · have := L2.kV_inj ey
    subst this
    rcases e with e | ⟨o, e⟩ <;> (rw [h] at e; cases e)
    exact q
  · cases kk <;> cases ey
theorem sd_ok {O : Addr → Prop} {ρ : Nat → Addr} {st : Sr} {H : Hp} {o k v : Vl} {x ky vy : V} {Q : VK} (S : RelS C.K O ρ H st) (ro : Rep C.K O ρ st H o x) (rk : Rep C.K O ρ st H k ky) (rv : Rep C.K O ρ st H v vy) (h : End C.K W O (RpV C.K O) ρ st H (sdV o k v st) Q) : L2.rSetd x [ky, vy] H Q := by
  unfold sdV at h
  cases v with
  | r n => exact h.elim
  | p v =>
    dsimp only at h
    cases q : dputV o k (.p v) st with
    | none => rw [q] at h; exact h.elim
    | some s' =>
      rw [q] at h
      dsimp only at h
      obtain ⟨l, ks, kk, rfl, rfl, e3, e4, t1, t2, e5⟩ := dput_ok S q ro rk rv
      refine ⟨l, ks, kk, vy, rfl, rfl, e3, e4, fun u hu => ?_, fun hn => ?_⟩
      · cases qd : dixV o k st with
        | none => rw [e5 qd] at hu; cases hu
        | some w =>
          rw [qd] at h
          obtain ⟨l', z, e6, e7, e8⟩ := dix_ok S qd ro rk
          cases e6
          have := dget_at e3 e7
          rw [hu] at this
          cases this
          exact h.at S e8
      · cases qd : dixV o k st with
        | none =>
          rw [qd] at h
          exact h ρ _ _ t1 t2 (RepP.stp S t1 rv)
        | some w =>
          obtain ⟨l', z, e6, e7, e8⟩ := dix_ok S qd ro rk
          cases e6
          have := dget_at e3 e7
          rw [hn] at this
          cases this
theorem gt_ok {O : Addr → Prop} {ρ : Nat → Addr} {st : Sr} {H : Hp} {o k d : Vl} {x ky dy : V} {Q : VK} (S : RelS C.K O ρ H st) (ro : Rep C.K O ρ st H o x) (rk : Rep C.K O ρ st H k ky) (rd : Rep C.K O ρ st H d dy) (h : End C.K W O (RpV C.K O) ρ st H (gtV o k d st) Q) : ∃ l w, x = .ref l ∧ DGet H l ky w ∧ Q (w.getD dy) H := by
  unfold gtV at h
  split at h
  · rename_i kvs kp q1 q2
    obtain ⟨l, ks, rfl, d1, d2⟩ := dat_ok S q1 ro
    obtain ⟨kk, rfl, rfl⟩ := key_ex q2
    have ey := key_rep rk
    subst ey
    refine ⟨l, valV ks kk, rfl, .inl ⟨ks, kk, d1, rfl, rfl⟩, ?_⟩
    rcases d2.get kk with ⟨e1, e2⟩ | ⟨d, u, e1, e2, r⟩
    · rw [e1] at h
      rw [e2]
      exact h.at S rd
    · rw [e1] at h
      rw [e2]
      exact h.at S r
  · exact h.elim
theorem xDme1 {T0 T1 : T} {p0 : Pos} (hu : C.A.units + 65 < cLine) (hb : ∀ (nm : Str), attributeBase (toE T0) nm C.env (eval (toE T0) C.env) = eval (toE T0) C.env) (hl : (p0.endLine == pos.line) = true) (ho : PE C (toE T0) (TrE C.K W fa)) (hx : PA C [toE T1] (TrA C.K W fs)) :
    PE C (.Call (.Attribute (toE T0) (meN .gt) p0) [toE T1] [] pos) (TrE C.K W fun e s => (fa e s).bd fun o s => if dat0 o s = true then (fs e s).bd fun vs s => dmeV .gt o vs s else .no) :=
  imE (L2.pe_bm PySem.F.plainAttrs_dict PySem.F.slot_dict_get PySem.F.type_dict_get (mGt hu) ho hx (hb _) (by rw [star_cons]; rfl) hl (star_cons _ _ _)) fun σ H Q ⟨O, ρ, e, st, R, h⟩ =>
    ⟨O, ρ, e, st, R, End.bd R.S h fun x st1 ρ1 H1 v _ s1 S1 r1 h1 => by
      split at h1
      · rename_i hx
        refine ⟨dat0_ty S1 hx r1, O, ρ1, e, st1, R.go s1 S1, End.bd S1 h1 fun ys st2 ρ2 H2 us _ s2 S2 r2 h2 => ?_⟩
        have ro := Rep.stp S1 s2 r1
        cases r2 with
        | nil => exact h2.elim
        | @cons k _ ky _ rk rs =>
          cases rs with
          | nil =>
            obtain ⟨l, w, e1, e2, e3⟩ := gt_ok S2 ro rk (show Rep C.K O ρ2 st2 H2 (.p .none) .non from RepP.non) h2
            exact ⟨l, ky, w, e1, e2, .inl ⟨rfl, e3⟩⟩
          | @cons d _ dy _ rd rs =>
            cases rs with
            | nil =>
              obtain ⟨l, w, e1, e2, e3⟩ := gt_ok S2 ro rk rd h2
              exact ⟨l, ky, w, e1, e2, .inr ⟨dy, rfl, e3⟩⟩
            | cons _ _ => exact h2.elim
      · exact h1.elim⟩
theorem xDme2 {T0 T1 T2 : T} {f : Me} {p0 : Pos} (hf : f = .sd ∨ f = .gt) (hu : C.A.units + 65 < cLine) (hb : ∀ (nm : Str), attributeBase (toE T0) nm C.env (eval (toE T0) C.env) = eval (toE T0) C.env) (hl : (p0.endLine == pos.line) = true) (ho : PE C (toE T0) (TrE C.K W fa)) (hx : PA C [toE T1, toE T2] (TrA C.K W fs)) :
    PE C (.Call (.Attribute (toE T0) (meN f) p0) [toE T1, toE T2] [] pos) (TrE C.K W fun e s => (fa e s).bd fun o s => if dat0 o s = true then (fs e s).bd fun vs s => dmeV f o vs s else .no) := by
  rcases hf with rfl | rfl
  · exact imE (L2.pe_bm PySem.F.plainAttrs_dict PySem.F.slot_dict_setdefault PySem.F.type_dict_setdefault mSd ho hx (hb _) (by rw [star_cons, star_cons]; rfl) hl (star_cons _ _ _) (by rw [star_cons]; rfl)) fun σ H Q ⟨O, ρ, e, st, R, h⟩ =>
      ⟨O, ρ, e, st, R, End.bd R.S h fun x st1 ρ1 H1 v _ s1 S1 r1 h1 => by
        split at h1
        · rename_i hx
          refine ⟨dat0_ty S1 hx r1, O, ρ1, e, st1, R.go s1 S1, End.bd S1 h1 fun ys st2 ρ2 H2 us _ s2 S2 r2 h2 => ?_⟩
          have ro := Rep.stp S1 s2 r1
          cases r2 with
          | nil => exact h2.elim
          | @cons k _ ky _ rk rs =>
            cases rs with
            | nil => exact h2.elim
            | @cons d _ dy _ rd rs =>
              cases rs with
              | nil => exact sd_ok S2 ro rk rd h2
              | cons _ _ => exact h2.elim
        · exact h1.elim⟩
  · exact imE (L2.pe_bm PySem.F.plainAttrs_dict PySem.F.slot_dict_get PySem.F.type_dict_get (mGt hu) ho hx (hb _) (by rw [star_cons, star_cons]; rfl) hl (star_cons _ _ _) (by rw [star_cons]; rfl)) fun σ H Q ⟨O, ρ, e, st, R, h⟩ =>
      ⟨O, ρ, e, st, R, End.bd R.S h fun x st1 ρ1 H1 v _ s1 S1 r1 h1 => by
        split at h1
        · rename_i hx
          refine ⟨dat0_ty S1 hx r1, O, ρ1, e, st1, R.go s1 S1, End.bd S1 h1 fun ys st2 ρ2 H2 us _ s2 S2 r2 h2 => ?_⟩
          have ro := Rep.stp S1 s2 r1
          cases r2 with
          | nil => exact h2.elim
          | @cons k _ ky _ rk rs =>
            cases rs with
            | nil =>
              obtain ⟨l, w, e1, e2, e3⟩ := gt_ok S2 ro rk (show Rep C.K O ρ2 st2 H2 (.p .none) .non from RepP.non) h2
              exact ⟨l, ky, w, e1, e2, .inl ⟨rfl, e3⟩⟩
            | @cons d _ dy _ rd rs =>
              cases rs with
              | nil =>
                obtain ⟨l, w, e1, e2, e3⟩ := gt_ok S2 ro rk rd h2
                exact ⟨l, ky, w, e1, e2, .inr ⟨dy, rfl, e3⟩⟩
              | cons _ _ => exact h2.elim
        · exact h1.elim⟩
/-! written ones -/
theorem xD0 : PE C (.Dict [] [] pos) (TrE C.K W eD0) :=
  imE L2.pe_dnewK fun σ H Q ⟨O, ρ, e, st, R, h⟩ p hp => h (ext ρ st.length p) _ (.ref p) (Stp.push hp) (R.S.pushD hp .nil) ⟨by simp, by rw [ext_same]⟩
theorem xD1 (ha : PE C a (TrE C.K W fa)) (hb : PE C b (TrE C.K W fb)) : PE C (.Dict [some a] [b] pos) (TrE C.K W fun e s => match fa e s with
  | .ok x s => match fb e s with
    | .ok y s => mkD1 x y s
    | _ => .no
  | _ => .no) :=
  imE (L2.pe_disp (L2.pps_cons ha hb L2.pps_nil) rfl rfl (by simp) (by simp)) fun σ H Q ⟨O, ρ, e, st, R, h⟩ p hp => by
    dsimp only at h
    have wid : Wid O (fun a => O a ∨ a = p) H := fun a q => q.elim .inl fun q => .inr (q ▸ hp)
    have S0 := R.S.newOwn (ho := .dK []) hp
    have E0 := RelE.newOwn (ho := .dK []) R.S R.E hp
    have Sf : RelS C.K (fun _ => False) ρ H st := R.S.less fun _ q => q.elim
    have s0 : Stp ρ st H ρ st (upd H p (.dK [])) := Stp.new R.S hp
    have nl : ∀ {ρ : Nat → Addr} {st : Sr} {H : Hp}, RelS C.K (fun a => O a ∨ a = p) ρ H st → ¬ live ρ st p := fun S ⟨n, o, q1, q2, q3⟩ => S.out n (List.getElem?_eq_some_iff.mp q1).1 (.inr q3)
    cases q1 : fa e st with
    | ok x st1 =>
      rw [q1] at h
      dsimp only at h
      cases q2 : fb e st1 with
      | ok y st2 =>
        rw [q2] at h
        dsimp only at h
        refine ⟨fun a => O a ∨ a = p, ρ, e, st, ⟨S0, E0⟩, ?_⟩
        rw [q1]
        intro ρ1 H1 v1 s1 S1 r1
        refine ⟨fun a => O a ∨ a = p, ρ1, e, st1, ⟨S1, E0.stp S0 s1⟩, ?_⟩
        rw [q2]
        intro ρ2 H2 v2 s2 S2 r2
        have h1p : H1 p = some (.dK []) := s1.kp p _ upd_same (nl S0) fun ps z => nomatch z
        have h2p : H2 p = some (.dK []) := s2.kp p _ h1p (nl S1) fun ps z => nomatch z
        unfold mkD1 at h
        split at h
        · rename_i k v qk
          obtain ⟨kk, rfl, rfl⟩ := key_ex qk
          have ek : v1 = L2.kV kk := key_rep r1
          subst ek
          refine ⟨h2p, [(kk, v2)], rfl, by simp, ?_⟩
          have S3 : RelS C.K (fun a => O a ∨ a = p) ρ2 (upd H2 p (.dK [(kk, v2)])) st2 := S2.ownO (.inr rfl) h2p trivial
          have kr : KReq C.K (Mt (fun a => O a ∨ a = p) ρ2 st2) (upd H2 p (.dK [(kk, v2)])) [(keyV kk, v)] [(kk, v2)] := .cons rfl (RepP.ownO (.inr rfl) h2p trivial r2) .nil
          have nO : ¬ O p := fun q => R.S.al p q hp
          have A := adoptD S3 (O := O) (fun _ q => .inl q) (fun _ q => q) (.inr rfl) nO upd_same kr
          have t : Stp ρ st H ρ2 st2 H2 := s0.trans Sf (S0.less fun _ z => z.elim) (s1.trans (S0.less fun _ (z : False) => z.elim) (S1.less fun _ (z : False) => z.elim) s2)
          exact h _ _ _ ((t.own hp).adopt hp) A ⟨by simp, by rw [ext_same]⟩
        · exact h.elim
      | ex c x s => rw [q2] at h; exact h.elim
      | no => rw [q2] at h; exact h.elim
    | ex c x s => rw [q1] at h; exact h.elim
    | no => rw [q1] at h; exact h.elim
end
end Mi
end
section
set_option Elab.async false
set_option linter.all false
set_option maxRecDepth 100000
set_option maxHeartbeats 2000000
/-! D4: dicts: comprehensions, walks. -/
namespace Mi
open PySem
open L2 (V HO Hp upd upd_same upd_ne SqL SqT Rd Cx Inv PE PT PA PS PSs PG PGs PI TE TT TA TS TG TGs TI It VK XK Ends RelV Vals ne_of_none OpR R2 EP CallR UnR IxR SlR TruR Gl Vis Loc Itl Itt Itr wipe Key valV putK DGet DPut mixKind)
section
variable {C : Cx} {W : Nat → Option Addr → Hp → Prop} {fi : En → Sr → R (List Vl ⊕ Nat)} {gl : List P} {F : Nat → List Vl → Sr → R Vl} {tg cond kx vx : T}
theorem dcL_ok {tg : Vl → En → Sr → X} {cond : En → Sr → R Bool} {kx vx : En → Sr → R Vl} {e : En} : ∀ (vs : List Vl) (acc : List (P × P)) (s : Sr), (∃ xs s', dcL tg cond kx vx e vs acc s = .ok xs s') ∨ dcL tg cond kx vx e vs acc s = .no
  | [], acc, s => .inl ⟨_, _, rfl⟩
  | v :: r, acc, s => by
    simp only [dcL]
    split
    · split
      · split
        · split
          · split
            · split
              · exact dcL_ok r _ _
              · exact .inr rfl
            · exact .inr rfl
          · exact .inr rfl
        · exact .inr rfl
      · exact dcL_ok r _ _
      · exact .inr rfl
    · exact .inr rfl
theorem dc_turn {O' : Addr → Prop} {ρ1 ρ2 : Nat → Addr} {st1 st2 : Sr} {H1 H : Hp} {σ : Sg} {e : En} {v : Vl} {r : List Vl} {x : V} {D : Addr} {acc : List (Key × V)} {accP kvs : List (P × P)} {s'' : Sr} {vs : List Nat} {N : Hp → Prop}
    (hn : nmT vs tg = true) (s2 : Stp ρ1 st1 H1 ρ2 st2 H) (S2 : RelS C.K O' ρ2 H st2) (S1' : RelS C.K (fun _ => False) ρ1 H1 st1) (E2 : RelE C.K O' ρ2 (wipe σ vs) H (wipeE e vs) st2) (hO : O' D) (h1D : H1 D = none) (hD : H D = some (.dK acc))
    (ra : KReq C.K (Mt O' ρ2 st2) H accP acc) (rv : Rep C.K O' ρ2 st2 H v x)
    (h : dcL (sem gl F tg).k (cnd (sem gl F cond)) (sem gl F kx).e (sem gl F vx).e (wipeE e vs) (v :: r) accP st2 = .ok kvs s'')
    (hN : ∀ ρ3 st3 H3 acc3 accP3, Stp ρ1 st1 H1 ρ3 st3 H3 → RelS C.K O' ρ3 H3 st3 → RelE C.K O' ρ3 (wipe σ vs) H3 (wipeE e vs) st3 → H3 D = some (.dK acc3) → KReq C.K (Mt O' ρ3 st3) H3 accP3 acc3 → dcL (sem gl F tg).k (cnd (sem gl F cond)) (sem gl F kx).e (sem gl F vx).e (wipeE e vs) r accP3 st3 = .ok kvs s'' → N H3) :
    gE C.K tg x (wipe σ vs) H fun σ2 H2 => wipe σ2 vs = wipe σ vs ∧ TrT C.K W0 (cnd (sem gl F cond)) σ2 H2 fun b H3 =>
      if b = true then TrE C.K W0 (sem gl F kx).e σ2 H3 fun y H4 => TrE C.K W0 (sem gl F vx).e σ2 H4 fun z H5 => ∃ kvs k, y = L2.kV k ∧ H5 D = some (.dK kvs) ∧ kvs.length < sizeLine ∧ N (upd H5 D (.dK (putK kvs k z))) else N H3 := by
  simp only [dcL] at h
  cases q : (sem gl F tg).k v (wipeE e vs) st2 with
  | nx e1 s1 =>
    rw [q] at h
    have e0 := (gE_st gl F vs tg _ e1 st2 s1 v hn q).symm
    subst e0
    dsimp only at h
    refine gE_ok gl F vs tg (wipe σ vs) _ e1 v x hn E2 rv q fun σ' E' w' => ⟨by rw [w', wipe_wipe], ?_⟩
    have R' : Rel C.K O' ρ2 σ' H e1 st2 := ⟨S2, E'⟩
    refine ⟨O', ρ2, e1, st2, R', ?_⟩
    cases qc : cnd (sem gl F cond) e1 st2 with
    | ok b s3 =>
      rw [qc] at h
      intro ρ3 H3 b' t3 S3 rb
      cases (show b = b' from rb)
      have R3 := R'.go t3 S3
      have nl : ∀ {ρ : Nat → Addr} {st : Sr} {H : Hp}, RelS C.K O' ρ H st → ¬ live ρ st D := fun S ⟨n, o, q1, q2, q3⟩ => S.out n (List.getElem?_eq_some_iff.mp q1).1 (q3 ▸ hO)
      have hD3 : H3 D = some (.dK acc) := t3.kp D _ hD (nl S2) fun ps z => nomatch z
      have u3 := s2.trans S1' (S2.less fun _ z => z.elim) t3
      cases b with
      | false => exact hN ρ3 s3 H3 acc accP u3 S3 (E2.stp S2 t3) hD3 (ra.map fun h => h.stp S2 t3) h
      | true =>
        dsimp only at h
        refine ⟨O', ρ3, e1, s3, R3, ?_⟩
        cases qe : (sem gl F kx).e e1 s3 with
        | ok kw s4 =>
          rw [qe] at h
          intro ρ4 H4 y t4 S4 ry
          dsimp only at h
          refine ⟨O', ρ4, e1, s4, R3.go t4 S4, ?_⟩
          cases qv : (sem gl F vx).e e1 s4 with
          | ok w s5 =>
            rw [qv] at h
            cases w with
            | r n => cases h
            | p d =>
              dsimp only at h
              intro ρ5 H5 z t5 S5 rz
              cases qk : key? kw with
              | none => rw [qk] at h; cases h
              | some k =>
                rw [qk] at h
                dsimp only at h
                split at h
                · rename_i hl
                  obtain ⟨kk, rfl, rfl⟩ := key_ex qk
                  have ey : y = L2.kV kk := key_rep ry
                  subst ey
                  have hD4 : H4 D = some (.dK acc) := t4.kp D _ hD3 (nl S3) fun ps z => nomatch z
                  have hD5 : H5 D = some (.dK acc) := t5.kp D _ hD4 (nl S4) fun ps z => nomatch z
                  have u5 := u3.trans S1' (S3.less fun _ z => z.elim) (t4.trans S3 S4 t5)
                  have E5 := ((E2.stp S2 t3).stp S3 t4).stp S4 t5
                  have ra5 : KReq C.K (Mt O' ρ5 s5) H5 accP acc := ((ra.map fun h => h.stp S2 t3).map fun h => h.stp S3 t4).map fun h => h.stp S4 t5
                  refine ⟨acc, kk, rfl, hD5, ?_, hN ρ5 s5 _ (putK acc kk z) (dput accP (keyV kk) d) (u5.own h1D) (S5.ownO hO hD5 trivial) ?_ upd_same ?_ h⟩
                  · rw [← ra5.len]
                    exact Nat.lt_of_lt_of_le hl (by decide +kernel)
                  · refine ⟨E5.ln, fun i x hx => ?_⟩
                    obtain ⟨u, g1, g2⟩ := E5.sl i x hx
                    refine ⟨u, g1, ?_⟩
                    cases x with
                    | p d => exact RepP.ownO hO hD5 trivial g2
                    | r n => exact g2
                  · exact (ra5.put kk rz).map fun h => h.ownO hO hD5 trivial
                · cases h
          | ex a b c => rw [qv] at h; cases h
          | no => rw [qv] at h; cases h
        | ex a b c => rw [qe] at h; cases h
        | no => rw [qe] at h; cases h
    | ex a b c => rw [qc] at h; cases h
    | no => rw [qc] at h; cases h
  | _ => rw [q] at h; cases h
theorem dc_imp {own : List (Str × Nat)} {σ : Sg} {H : Hp} {Q : VK} (hn : nmT (own.map (·.2)) tg = true) (h0 : TrE C.K W (fun e s => (fi e s).bd fun w s => (dcAll (sem gl F tg) (sem gl F cond) (sem gl F kx) (sem gl F vx) (wipeE e (own.map (·.2))) w s).bd fun kvs s => .ok (.r s.length) (s ++ [.dp 0 kvs])) σ H Q) :
    L2.tDc (TrI C.K W fi) (gE C.K tg) (TrT C.K W0 (cnd (sem gl F cond))) (TrE C.K W0 (sem gl F kx).e) (TrE C.K W0 (sem gl F vx).e) (own.map (·.2)) σ H Q :=
  let ⟨O, ρ, e, st, R, h⟩ := h0; ⟨O, ρ, e, st, R, End.bd R.S h fun w st1 ρ1 H1 J _ s1 S1 r1 h1 D hD => by
    have R1 := R.go s1 S1
    have wid : Wid O (fun a => O a ∨ a = D) H1 := fun a q => q.elim .inl fun q => .inr (q ▸ hD)
    have Sf : RelS C.K (fun _ => False) ρ1 H1 st1 := S1.less fun _ q => q.elim
    have S0 := S1.newOwn (ho := .dK []) hD
    have E0 := (RelE.newOwn (ho := .dK []) S1 R1.E hD).wipe (own.map (·.2))
    have s0 : Stp ρ1 st1 H1 ρ1 st1 (upd H1 D (.dK [])) := Stp.new S1 hD
    have nO : ¬ O D := fun q => S1.al D q hD
    cases w with
    | inr n => exact h1.elim
    | inl vs =>
      have okI : ItOk C.K O ρ1 st1 H1 vs J := r1
      have h2 : End C.K W O (RpV C.K O) ρ1 st1 H1 ((dcL (sem gl F tg).k (cnd (sem gl F cond)) (sem gl F kx).e (sem gl F vx).e (wipeE e (own.map (·.2))) vs [] st1).bd fun kvs s => .ok (.r s.length) (s ++ [.dp 0 kvs])) Q := h1
      refine ⟨fun i k H => k = vs.length - i ∧ ∃ ρ st acc accP kvs s'', Stp ρ1 st1 H1 ρ st H ∧ RelS C.K (fun a => O a ∨ a = D) ρ H st ∧ RelE C.K (fun a => O a ∨ a = D) ρ (wipe σ (own.map (·.2))) H (wipeE e (own.map (·.2))) st ∧ H D = some (.dK acc) ∧ KReq C.K (Mt (fun a => O a ∨ a = D) ρ st) H accP acc ∧
        dcL (sem gl F tg).k (cnd (sem gl F cond)) (sem gl F kx).e (sem gl F vx).e (wipeE e (own.map (·.2))) (vs.drop i) accP st = .ok kvs s'' ∧ End C.K W O (RpV C.K O) ρ1 st1 H1 (.ok (.r s''.length) (s'' ++ [.dp 0 kvs])) Q, ⟨vs.length, by simp, ?_⟩, ?_⟩
      · rcases dcL_ok (tg := (sem gl F tg).k) (cond := cnd (sem gl F cond)) (kx := (sem gl F kx).e) (vx := (sem gl F vx).e) (e := wipeE e (own.map (·.2))) vs [] st1 with ⟨xs, s', q⟩ | q
        · rw [q] at h2
          exact ⟨ρ1, st1, [], [], xs, s', s0, S0, E0, upd_same, .nil, q, h2⟩
        · rw [q] at h2; exact h2.elim
      · rintro i k H ⟨rfl, ρ2, st2, acc, accP, kvs, s'', t2, S2, E2, hD2, ra, hc2, hq⟩
        have oki := okI (fun a => O a ∨ a = D) ρ2 st2 H wid t2 S2 i
        by_cases hlt : i < vs.length
        · obtain ⟨g1, g2⟩ := oki.1 vs[i] (by simp [hlt])
          rw [show vs.drop i = vs[i] :: vs.drop (i + 1) from List.drop_eq_getElem_cons hlt] at hc2
          refine .inr ⟨g1, fun H => ∃ ρ st acc accP kvs s'', Stp ρ1 st1 H1 ρ st H ∧ RelS C.K (fun a => O a ∨ a = D) ρ H st ∧ RelE C.K (fun a => O a ∨ a = D) ρ (wipe σ (own.map (·.2))) H (wipeE e (own.map (·.2))) st ∧ H D = some (.dK acc) ∧ KReq C.K (Mt (fun a => O a ∨ a = D) ρ st) H accP acc ∧
            dcL (sem gl F tg).k (cnd (sem gl F cond)) (sem gl F kx).e (sem gl F vx).e (wipeE e (own.map (·.2))) (vs.drop (i + 1)) accP st = .ok kvs s'' ∧ End C.K W O (RpV C.K O) ρ1 st1 H1 (.ok (.r s''.length) (s'' ++ [.dp 0 kvs])) Q, fun H' q => ⟨vs.length - (i + 1), by omega, rfl, q⟩, fun x H' y => ?_⟩
          obtain ⟨u1, u2, u3⟩ := g2 x H' y
          have hD3 : H' D = some (.dK acc) := u1.kp D _ hD2 (fun ⟨n, o, q1, q2, q3⟩ => S2.out n (List.getElem?_eq_some_iff.mp q1).1 (.inr q3)) fun ps z => nomatch z
          exact dc_turn hn (t2.trans Sf (S2.less fun _ q => q.elim) u1) u2 Sf (E2.stp S2 u1) (.inr rfl) hD hD3 (ra.map fun h => h.stp S2 u1) u3 hc2
            fun ρ3 st3 H3 acc3 accP3 v1 v2 v3 v4 v6 v7 => ⟨ρ3, st3, acc3, accP3, kvs, s'', v1, v2, v3, v4, v6, v7, hq⟩
        · refine .inl ⟨oki.2 (by omega), ?_⟩
          rw [List.drop_eq_nil_of_le (by omega)] at hc2
          cases hc2
          exact hq _ _ _ (t2.adopt hD) (adoptD S2 (fun _ q => .inl q) (fun _ q => q) (.inr rfl) nO hD2 ra) ⟨by simp, by rw [ext_same]⟩⟩
theorem xDc {iter : Expr} {scope : Scope} {own : List (Str × Nat)} {pos : Pos} {ifs : List Expr} (hc : C.calm = true) (hN : C.N.Nodup) (hi : PI C (toE tg) iter (TrI C.K W fi)) (ok : L2.BlkOk C.N C.env.scope scope own) (hn : nmT (own.map (·.2)) tg = true)
    (hg : ∀ (s : Shared) (H : Hp) (Cc : Addr) (cl : List (Str × Addr)) (fp : List Addr), PG (C.blk s H scope (compEnvC scope cl Cc C.env) fp) (toE tg) (gE C.K tg))
    (ht : ∀ (s : Shared) (H : Hp) (Cc : Addr) (cl : List (Str × Addr)) (fp : List Addr), L2.PTs (C.blk s H scope (compEnvC scope cl Cc C.env) fp) ifs (TrT C.K W0 (cnd (sem gl F cond))))
    (hk : ∀ (s : Shared) (H : Hp) (Cc : Addr) (cl : List (Str × Addr)) (fp : List Addr), PE (C.blk s H scope (compEnvC scope cl Cc C.env) fp) (toE kx) (TrE C.K W0 (sem gl F kx).e))
    (he : ∀ (s : Shared) (H : Hp) (Cc : Addr) (cl : List (Str × Addr)) (fp : List Addr), PE (C.blk s H scope (compEnvC scope cl Cc C.env) fp) (toE vx) (TrE C.K W0 (sem gl F vx).e)) (hs : ∀ x, foldedSetIterable iter C.env x = pure x) :
    PE C (.DictComp (toE kx) (toE vx) [⟨toE tg, iter, ifs, 0⟩] scope pos) (TrE C.K W fun e s => (fi e s).bd fun w s => (dcAll (sem gl F tg) (sem gl F cond) (sem gl F kx) (sem gl F vx) (wipeE e (own.map (·.2))) w s).bd fun kvs s => .ok (.r s.length) (s ++ [.dp 0 kvs])) :=
  imE (L2.pe_dc hc hN hi ok hg ht hk he hs) fun σ H Q h => dc_imp hn h
end
/-! walks -/
section
variable {C : Cx} {W : Nat → Option Addr → Hp → Prop} {a : Expr} {fa : En → Sr → R Vl} {tg : Expr}
/-- behind an expression the dict that it told is locked -/
def tLk (t : TE) : TE := fun σ H Q => t σ H fun v H1 => ∃ d ks, v = .ref d ∧ ((∃ od, H1 d = some (.frz od (.dK ks)) ∧ Q v H1) ∨ (H1 d = some (.dK ks) ∧ ∀ od, Q v (upd H1 d (.frz od (.dK ks)))))
theorem pe_lk {t : TE} (h : PE C a t) : PE C a (tLk t) := ⟨fun pins s σ H Q I hw => L2.thn (h.run pins s σ H _ I hw) fun u s1 ⟨v, H1, I1, r, d, ks, e, q⟩ => by
  rcases q with ⟨od, h1, q⟩ | ⟨h1, q⟩
  · exact ⟨v, H1, I1, r, q⟩
  · obtain ⟨od, I2⟩ := I1.lock h1 trivial
    exact ⟨v, _, I2, r, q od⟩⟩
/-- a locked dict, walked -/
theorem itK {K : Fg} {O : Addr → Prop} {ρ : Nat → Addr} {st : Sr} {H : Hp} {n k : Nat} {od : Obj} {kvs : List (P × P)} {ks : List (Key × V)} (S : RelS K O ρ H st) (hn : st[n]? = some (.dp (k + 1) kvs)) (hd : H (ρ n) = some (.frz od (.dK ks))) (r : KReq K (Mt O ρ st) H kvs ks) :
    ItOk K O ρ st H (wkL false kvs) (L2.Itk (ρ n) od ks) ∧ ItOk K O ρ st H (wkL true kvs) (L2.Iti (ρ n) od ks) := by
  have nl : ¬ live ρ st (ρ n) := fun ⟨m, o, q1, q2, q3⟩ => by
    have := S.inj m n (List.getElem?_eq_some_iff.mp q1).1 (List.getElem?_eq_some_iff.mp hn).1 q3
    subst this
    rw [hn] at q1
    cases q1
    simp [isLive] at q2
  have ll : ks.length = kvs.length := r.len.symm
  refine ⟨fun O' ρ' st' H' w s S' i => ?_, fun O' ρ' st' H' w s S' i => ?_⟩
  · have hd' : H' (ρ n) = some (.frz od (.dK ks)) := s.kp _ _ hd nl fun ps z => nomatch z
    refine ⟨fun v hv => ?_, fun hi => ⟨hd', by simpa [wkL, ll] using hi⟩⟩
    obtain ⟨q, hq, rfl⟩ : ∃ q, kvs[i]? = some q ∧ v = .p q.1 := by
      rw [wkL, List.getElem?_map] at hv
      obtain ⟨q, h1, h2⟩ := Option.map_eq_some_iff.mp hv
      exact ⟨q, h1, h2.symm⟩
    obtain ⟨kk, u, h1, h2, h3⟩ := r.at hq
    refine ⟨⟨hd', (List.getElem?_eq_some_iff.mp h1).1⟩, fun x H'' ⟨e1, k', v', e2, e3⟩ => ?_⟩
    subst e1 e3
    rw [h1] at e2
    cases e2
    refine ⟨.rfl, S', ?_⟩
    rw [h2]
    exact rep_key
  · have hd' : H' (ρ n) = some (.frz od (.dK ks)) := s.kp _ _ hd nl fun ps z => nomatch z
    refine ⟨fun v hv => ?_, fun hi => ⟨hd', by simpa [wkL, ll] using hi⟩⟩
    obtain ⟨q, hq, rfl⟩ : ∃ q, kvs[i]? = some q ∧ v = .p (.tuple [q.1, q.2]) := by
      rw [wkL, List.getElem?_map] at hv
      obtain ⟨q, h1, h2⟩ := Option.map_eq_some_iff.mp hv
      exact ⟨q, h1, h2.symm⟩
    obtain ⟨kk, u, h1, h2, h3⟩ := r.at hq
    refine ⟨⟨hd', (List.getElem?_eq_some_iff.mp h1).1⟩, fun x H'' ⟨p, k', v', e2, e3, e4, e5⟩ => ?_⟩
    subst e3 e5
    rw [h1] at e2
    cases e2
    refine ⟨Stp.new S' e4, S'.new e4, ?_⟩
    rw [h2]
    exact rep_newT S' e4 (.cons rep_key (.cons (RepP.go S w s h3) .nil))
theorem wk_lk {b : Bool} {J : Addr → Obj → List (Key × V) → It} (hJ : J = if b then L2.Iti else L2.Itk) {σ : Sg} {H : Hp} {Rq : It → Hp → Prop} (h : TrI C.K W (fun e s => (fa e s).bd fun v s => wkV b v s) σ H Rq)
    {Kq : VK} (hK : ∀ d o kvs H1, H1 d = some (.frz o (.dK kvs)) → Rq (J d o kvs) H1 → Kq (.ref d) H1) : tLk (TrE C.K W fa) σ H Kq := by
  obtain ⟨O, ρ, e, st, R, h⟩ := h
  refine ⟨O, ρ, e, st, R, End.bd R.S h fun x st1 ρ1 H1 v _ s1 S1 r1 h1 => ?_⟩
  unfold wkV at h1
  split at h1
  · rename_i n _
    obtain ⟨hn, rfl⟩ := r1
    split at h1
    · rename_i kvs q
      obtain ⟨w, f1, ks, f2, f3⟩ := S1.ob n _ q
      rcases f2 with ⟨_, rfl⟩ | ⟨z, _⟩
      · refine ⟨_, ks, rfl, .inr ⟨f1, fun od => hK _ od ks _ upd_same ?_⟩⟩
        have s : Stp ρ1 st1 H1 ρ1 (st1.set n (.dp 1 kvs)) (L2.upd H1 (ρ1 n) (.frz od (.dK ks))) := Stp.upd q rfl (fun _ z => nomatch z) (fun _ _ z => nomatch z) (fun _ _ _ => ⟨_, _, rfl⟩) S1
        have f3' := f3.map fun h => h.stp S1 s
        have S2 := S1.upd q s ⟨ks, .inr ⟨by simp, od, rfl⟩, f3'⟩
        have hst : (st1.set n (.dp 1 kvs))[n]? = some (.dp 1 kvs) := by rw [List.getElem?_set_self hn]
        obtain ⟨i1, i2⟩ := itK (k := 0) S2 hst upd_same f3'
        refine h1 ρ1 _ _ s S2 ?_
        subst hJ
        cases b with
        | false => exact i1
        | true => exact i2
      · exact absurd rfl z
    · rename_i k kvs q
      obtain ⟨w, f1, ks, f2, f3⟩ := S1.ob n _ q
      rcases f2 with ⟨z, _⟩ | ⟨z, od, rfl⟩
      · cases z
      · refine ⟨_, ks, rfl, .inl ⟨od, f1, hK _ od ks _ f1 ?_⟩⟩
        obtain ⟨i1, i2⟩ := itK S1 q f1 f3
        refine h1 ρ1 _ _ .rfl S1 ?_
        subst hJ
        cases b with
        | false => exact i1
        | true => exact i2
    · exact h1.elim
  · exact h1.elim
theorem iDwk (ha : PE C a (TrE C.K W fa)) : PI C tg a (TrI C.K W fun e s => (fa e s).bd fun v s => wkV false v s) :=
  imI (L2.pi_keys (pe_lk ha)) fun σ H Q h => wk_lk (b := false) rfl h fun d o kvs H1 h1 h2 => ⟨d, o, rfl, .inl ⟨kvs, h1, h2⟩⟩
theorem iItm {T0 : T} {elts : List Expr} {kk : Nat} {tpos p0 pos : Pos} (hb : ∀ (nm : Str), attributeBase (toE T0) nm C.env (eval (toE T0) C.env) = eval (toE T0) C.env) (hl : (p0.endLine == pos.line) = true) (ha : PE C (toE T0) (TrE C.K W fa)) :
    PI C (.Tuple elts kk tpos) (.Call (.Attribute (toE T0) "items" p0) [] [] pos) (TrI C.K W fun e s => (fa e s).bd fun v s => wkV true v s) :=
  imI (L2.pi_items (pe_lk ha) (hb _) hl) fun σ H Q h => wk_lk (b := true) rfl h fun d o kvs H1 h1 h2 => ⟨d, o, kvs, rfl, h1, h2⟩
end
end Mi
end
section
set_option Elab.async false
set_option linter.all false
set_option maxRecDepth 100000
set_option maxHeartbeats 2000000
/-! D5: a name, a new dict on one line. -/
namespace Mi
open PySem
open L2 (V HO Hp upd upd_same upd_ne SqL SqT Rd Cx Inv PE PT PA PS PSs PG PGs PI TE TT TA TS TG TGs TI It VK XK Ends RelV Vals ne_of_none OpR R2 EP CallR UnR IxR SlR TruR Gl Vis Loc Itl Itt Itr wipe Key valV putK DGet DPut mixKind)
section
variable {C : Cx} {W : Nat → Option Addr → Hp → Prop} {fi : En → Sr → R (List Vl ⊕ Nat)} {gl : List P} {F : Nat → List Vl → Sr → R Vl} {tg cond kx vx : T}
theorem ps_dc1 {i : Nat} {y : Str} {py : Pos} {kx vx tg iter : Expr} {ifs : List Expr} {sc : Scope} {own : List (Str × Nat)} {pos spos : Pos} {wi : TI} {g : TG} {tt : TT} {tk tv : TE}
    (h1 : C.calm = true) (h2 : C.N.Nodup) (h3 : C.N[i]? = some y) (h4 : C.env.scope.names.lookup y = some .local)
    (h5 : swapsWith (.DictComp kx vx [⟨tg, iter, ifs, 0⟩] sc pos) (some (.Name y py)) spos.line C.env = pure true) (h6 : PI C tg iter wi) (h7 : L2.BlkOk C.N C.env.scope sc own)
    (hg : ∀ s H Cc cl fp, PG (C.blk s H sc (compEnvC sc cl Cc C.env) fp) tg g)
    (ht : ∀ s H Cc cl fp, L2.PTs (C.blk s H sc (compEnvC sc cl Cc C.env) fp) ifs tt)
    (hk : ∀ s H Cc cl fp, PE (C.blk s H sc (compEnvC sc cl Cc C.env) fp) kx tk)
    (he : ∀ s H Cc cl fp, PE (C.blk s H sc (compEnvC sc cl Cc C.env) fp) vx tv) (hs : ∀ x, foldedSetIterable iter C.env x = pure x) :
    PS C (.Assign [.Name y py] (.DictComp kx vx [⟨tg, iter, ifs, 0⟩] sc pos) spos) (L2.tAsg (L2.tDc wi g tt tk tv (own.map (·.2))) (L2.gName i)) := by
  constructor
  intro pins s σ H D I q
  rw [exec_Assign_Name_used _ _ _ _ h5]
  apply wpAny_bind
  apply wpAny_standAt
  apply wpAny_bind
  show wpAny _ C.A (do let _ ← comprehension (.DictComp kx vx [⟨tg, iter, ifs, 0⟩] sc pos) sc C.env (firstIterPos [⟨tg, iter, ifs, 0⟩] pos) newDict false (eval iter C.env) (some (assign (.Name y py) C.env))) _ _ s
  have q' : L2.tDc wi g tt tk tv (own.map (·.2)) σ H (fun x H1 => L2.gName i x σ H1 D.nx) := q
  apply wpAny_bind
  refine L2.thn (L2.dc_core (Qf := fun _ s' => L2.SP C pins D .next s') h1 h2 I h6 h7 hg ht hk he hs q' ?_) fun _ s' z => wpAny_pure (wpAny_pure z)
  intro L Cc s' m H' I' qq hn f
  show wpAny _ _ (assign (.Name y py) C.env (.ref L)) _ _ _
  apply wpAny_assign_Name
  refine L2.store_ok2 (v := V.ref L) I' h2 h3 (.inl h4) rfl ?_ (.inr h4)
  rintro s2 I2 ⟨a, sb, ha⟩
  have ne : Cc ≠ a := by
    rcases ha with z | z
    · rw [z]; exact f.2.1
    · exact fun e => f.2.2.2.2.1 y a z e.symm
  refine ⟨m, hn.sameBut sb ne, fun h3 sb3 => ⟨_, H', ?_, qq⟩⟩
  exact I2.turned (t' := s2.toks) (fun b o hb e => (sb3.2 b hb).trans e) f.1 f.2.1 f.2.2.2.1 f.2.2.2.2.1 f.2.2.2.2.2
theorem dc_sw {kx vx : Expr} {gs : List Comprehension} {sc : Scope} {pos py : Pos} {y : Str} {l : Nat} {env : Env} (hk : env.scope.kind = .function) (hy : env.scope.names.lookup y = some .local) (hl : (py.line == pos.line) = true)
    (ha : (sc.names.any fun (n, k) => n == y && (k == .local || k == .cell)) = false) : swapsWith (.DictComp kx vx gs sc pos) (some (.Name y py)) l env = pure true := by
  have e1 : env.kindOf y = some .local := hy
  have e2 : env.blockKind = .function := by unfold Env.blockKind; rw [hk]; rfl
  unfold swapsWith
  simp only [e1, e2, ha, hl, Expr.pos]
  rfl
theorem sDc {iter : Expr} {sc : Scope} {own : List (Str × Nat)} {pos spos py : Pos} {ifs : List Expr} {i : Nat} {y : Str} (hc : C.calm = true) (hN : C.N.Nodup) (hy : C.N[i]? = some y) (hyl : C.env.scope.names.lookup y = some .local)
    (hsw : swapsWith (.DictComp (toE kx) (toE vx) [⟨toE tg, iter, ifs, 0⟩] sc pos) (some (.Name y py)) spos.line C.env = pure true)
    (hi : PI C (toE tg) iter (TrI C.K W fi)) (ok : L2.BlkOk C.N C.env.scope sc own) (hn : nmT (own.map (·.2)) tg = true)
    (hg : ∀ s H Cc cl fp, PG (C.blk s H sc (compEnvC sc cl Cc C.env) fp) (toE tg) (gE C.K tg))
    (ht : ∀ s H Cc cl fp, L2.PTs (C.blk s H sc (compEnvC sc cl Cc C.env) fp) ifs (TrT C.K W0 (cnd (sem gl F cond))))
    (hk : ∀ s H Cc cl fp, PE (C.blk s H sc (compEnvC sc cl Cc C.env) fp) (toE kx) (TrE C.K W0 (sem gl F kx).e))
    (he : ∀ s H Cc cl fp, PE (C.blk s H sc (compEnvC sc cl Cc C.env) fp) (toE vx) (TrE C.K W0 (sem gl F vx).e)) (hs : ∀ x, foldedSetIterable iter C.env x = pure x) :
    PS C (.Assign [.Name y py] (.DictComp (toE kx) (toE vx) [⟨toE tg, iter, ifs, 0⟩] sc pos) spos) (TrS C.K W fun e s => ((fi e s).bd fun w s => (dcAll (sem gl F tg) (sem gl F cond) (sem gl F kx) (sem gl F vx) (wipeE e (own.map (·.2))) w s).bd fun kvs s => .ok (.r s.length) (s ++ [.dp 0 kvs])).bx fun v s => kV i v e s) :=
  imS (ps_dc1 hc hN hy hyl hsw hi ok hg ht hk he hs) fun D σ H ⟨O, ρ, e, st, R, h⟩ => dc_imp hn ⟨O, ρ, e, st, R, End.bx R.S h fun x st1 ρ1 H1 v _ s1 S1 r1 h1 => h1 ρ1 _ H1 .rfl ⟨S1, (R.go s1 S1).E.set r1 i⟩⟩
end
end Mi
end
section
set_option Elab.async false
set_option linter.all false
set_option maxRecDepth 100000
set_option maxHeartbeats 1000000
/-! M19: what a tree asks of its context; facts of trees. -/
namespace Mi
open PySem
open L2 (V HO Hp upd upd_same upd_ne SqL SqT Rd Cx Inv PE PT PA PS PSs PG PGs PI TE TT TA TS TG TGs TI It VK XK Ends RelV Vals ne_of_none OpR R2 EP CallR UnR IxR SlR TruR Gl Vis Loc Itl Itt Itr wipe Room)
/-- the law's names: constants with their values, defs -/
structure Wd where
  gl : List P
  gn : List Str
  fn : List Str
/-- a frame's names -/
structure Ct where
  N : List Str
  sc : Scope
  fx : Str → Bool
def nmOk (x : Str) : Bool := !(x == ("__debug__" : Str)) && !(x == ("__classdict__" : Str)) && !(x == ("__name__" : Str))
def vis (c : Ct) (i : Nat) (x : Str) : Bool := decide (c.N[i]? = some x) && (c.sc.names.lookup x == some .local || c.sc.names.lookup x == some .cell || c.sc.names.lookup x == some .free) && nmOk x
def loc (c : Ct) (i : Nat) (x : Str) : Bool := decide (c.N[i]? = some x) && (c.sc.names.lookup x == some .local || (c.sc.names.lookup x == some .cell && c.fx x))
def glb (c : Ct) (x : Str) : Bool := c.sc.names.lookup x == some .globalImplicit && nmOk x
def Ct.blk (c : Ct) (scope : Scope) : Ct := ⟨c.N, L2.relS scope c.sc, fun x => scope.names.lookup x == some .cell⟩
structure Wf where
  e : Bool := false
  t : Bool := false
  a : Bool := false
  i : Bool := false
  iT : Bool := false
  s : Bool := false
  ss : Bool := false
  k : Bool := false
  ks : Bool := false
  b : Bool := false
  bt : Bool := false
  g : Bool := false
  gs : Bool := false
  o : Bool := false
  q : Bool := false
def isTupT : T → Bool
  | .tup _ _ _ => true
  | _ => false
def isNil : T → Bool
  | .nil => true
  | _ => false
def ns1 : T → Bool
  | .cons _ r => ns r
  | _ => false
def isBase : T → Bool
  | .v _ _ _ => true
  | .ix _ _ _ => true
  | _ => false
def isCp : T → Bool
  | .cp _ _ _ _ _ _ _ _ => true
  | .dcp _ _ _ _ _ _ _ _ => true
  | .pl x => isCp x
  | .dwk x => isCp x
  | _ => false
def isCp0 : T → Bool
  | .cp _ _ _ _ _ _ _ _ => true
  | _ => false
/-- a written tuple -/
def isTupE : T → Bool
  | .tup _ _ _ => true
  | .pl x => isTupE x
  | .dwk x => isTupE x
  | _ => false
def isVar : T → Bool
  | .v _ _ _ => true
  | _ => false
/-- a comprehension that is stored as it is made -/
def swapB (c : Ct) : T → T → Bool
  | .v _ x px, .cp _ _ _ _ _ sc _ p => c.sc.names.lookup x == some .local && px.line == p.line && !(sc.names.any fun (n, k) => n == x && (k == .local || k == .cell))
  | _, _ => false
def isDc : T → Bool
  | .dcp _ _ _ _ _ _ _ _ => true
  | _ => false
def swapD (c : Ct) (x : Str) (px : Pos) : T → Bool
  | .dcp _ _ _ _ _ sc _ p => c.sc.names.lookup x == some .local && px.line == p.line && !(sc.names.any fun (n, k) => n == x && (k == .local || k == .cell))
  | _ => false
def args1 : T → Bool
  | .cons _ .nil => true
  | _ => false
def args3 : T → Bool
  | .cons _ (.cons _ (.cons _ .nil)) => true
  | _ => false
def args2 : T → Bool
  | .cons _ (.cons _ .nil) => true
  | _ => false
def okMe (f : Me) (a : T) : Bool := match f with
  | .rem => args1 a
  | .pop => args1 a
  | .ext => args1 a
  | _ => false
def okDm (f : Me) (a : T) : Bool := match f with
  | .sd => args2 a
  | .gt => args1 a || args2 a
  | _ => false
def vars2 (c : Ct) : T → Bool
  | .cons (.v i x _) (.cons (.v j y _) .nil) => decide (c.N[i]? = some x) && decide (c.N[j]? = some y) && decide (i ≠ j) && c.sc.names.lookup x == some .local && c.sc.names.lookup y == some .local
  | _ => false
def vars3 (c : Ct) : T → Bool
  | .cons (.v i x _) (.cons (.v j y _) (.cons (.v l z _) .nil)) => decide (c.N[i]? = some x) && decide (c.N[j]? = some y) && decide (c.N[l]? = some z) && decide (i ≠ j) && decide (i ≠ l) && decide (j ≠ l) && c.sc.names.lookup x == some .local && c.sc.names.lookup y == some .local && c.sc.names.lookup z == some .local
  | _ => false
def wf (w : Wd) : T → Ct → Wf
  | .c x _ _, c => { e := (ofC x).isSome, t := (ofC x).isSome }
  | .v i x _, c => { e := vis c i x, t := vis c i x, k := loc c i x, g := loc c i x }
  | .g i x _, c => { e := decide (w.gn[i]? = some x) && glb c x, t := decide (w.gn[i]? = some x) && glb c x }
  | .tup a _ _, c => { e := (wf w a c).a, t := (wf w a c).a, k := (wf w a c).ks && ns a, g := (wf w a c).gs && ns a }
  | .lst _ a _, c => { e := (wf w a c).a, t := (wf w a c).a }
  | .ix a b _, c => { e := (wf w a c).e && (wf w b c).e, t := (wf w a c).e && (wf w b c).e, k := (wf w a c).e && (wf w b c).e }
  | .sl a lo hi _ _, c => { e := (wf w a c).e && (wf w lo c).o && (wf w hi c).o, t := (wf w a c).e && (wf w lo c).o && (wf w hi c).o }
  | .rv a _ _ _ _ _, c => { e := (wf w a c).e, t := (wf w a c).e }
  | .bin a _ b _, c => { e := (wf w a c).e && (wf w b c).e, t := (wf w a c).e && (wf w b c).e }
  | .neg a _, c => { e := (wf w a c).e, t := (wf w a c).e }
  | .nt a _, c => { e := (wf w a c).e, t := (wf w a c).t }
  | .cmp a _ b _, c => { e := (wf w a c).e && (wf w b c).e, t := (wf w a c).e && (wf w b c).e }
  | .cm2 a _ b _ d _, c => { e := (wf w a c).e && (wf w b c).e && (wf w d c).e, t := (wf w a c).e && (wf w b c).e && (wf w d c).e }
  | .bo _ a _, c => { e := (wf w a c).b, t := (wf w a c).bt }
  | .ite d a b _, c => { e := (wf w d c).t && (wf w a c).e && (wf w b c).e }
  | .bi f x a _ _, c => { e := decide (x = biN f) && glb c x && (wf w a c).a && ns1 a, t := decide (x = biN f) && glb c x && (wf w a c).a && ns1 a }
  | .isi a ty _ _ _, c => { e := okTy ty && glb c "isinstance" && glb c ty && (wf w a c).e, t := okTy ty && glb c "isinstance" && glb c ty && (wf w a c).e }
  | .cal f _ x a _ _, c => { e := decide (w.fn[f]? = some x) && glb c x && (wf w a c).a && ns a, t := decide (w.fn[f]? = some x) && glb c x && (wf w a c).a && ns a }
  | .lrg x a _ _ _ _, c => { e := decide (x = "list") && glb c "list" && glb c "range" && (wf w a c).a && ns1 a, t := decide (x = "list") && glb c "list" && glb c "range" && (wf w a c).a && ns1 a }
  | .lzp a _ _ _ _, c => { e := glb c "list" && glb c "zip" && (wf w a c).a && ns1 a, t := glb c "list" && glb c "zip" && (wf w a c).a && ns1 a }
  | .lsm a _ _, c => { e := glb c "list" && (wf w a c).a && args1 a }
  | .rpm a b _, c => { e := (wf w a c).e && (wf w b c).e }
  | .cp _ elt tg it cond sc own _, c => { e := ((wf w it c).i || (isTupT tg && (wf w it c).iT)) && L2.blkC c.N c.sc sc own && nmT (own.map (·.2)) tg && (wf w tg (c.blk sc)).g && (wf w cond (c.blk sc)).q && (wf w elt (c.blk sc)).e, t := ((wf w it c).i || (isTupT tg && (wf w it c).iT)) && L2.blkC c.N c.sc sc own && nmT (own.map (·.2)) tg && (wf w tg (c.blk sc)).g && (wf w cond (c.blk sc)).q && (wf w elt (c.blk sc)).e }
  | .app o x p0 p, c => { e := (wf w o c).e && (wf w x c).e && p0.endLine == p.line && isBase o }
  | .met f o a p0 p, c => { e := (wf w o c).e && (wf w a c).a && p0.endLine == p.line && isBase o && okMe f a }
  | .sb b a _ _ _ _, c => { e := glb c (if b then "sorted" else "len") && glb c "set" && (wf w a c).e, t := glb c (if b then "sorted" else "len") && glb c "set" && (wf w a c).e }
  | .dct0 _, c => { e := true }
  | .dct1 a b _, c => { e := (wf w a c).e && (wf w b c).e }
  | .dcp kx vx tg it cond sc own _, c => { e := ((wf w it c).i || (isTupT tg && (wf w it c).iT)) && L2.blkC c.N c.sc sc own && nmT (own.map (·.2)) tg && (wf w tg (c.blk sc)).g && (wf w cond (c.blk sc)).q && (wf w vx (c.blk sc)).e && (wf w kx (c.blk sc)).e }
  | .dix a b _, c => { e := (wf w a c).e && (wf w b c).e, t := (wf w a c).e && (wf w b c).e }
  | .din _ a b _, c => { e := (wf w a c).e && (wf w b c).e, t := (wf w a c).e && (wf w b c).e }
  | .dme f o a p0 p, c => { e := (wf w o c).e && (wf w a c).a && p0.endLine == p.line && isBase o && okDm f a }
  | .itm o p0 p, c => { iT := (wf w o c).e && p0.endLine == p.line && isBase o }
  | .dwk o, c => { i := (wf w o c).e }
  | .das i x px d p, c => { s := (wf w d c).e && loc c i x && isDc d }
  | .dst a b e _ _, c => { s := (wf w e c).e && (wf w a c).e && (wf w b c).e && !isCp e }
  | .dag a b _ e _ _, c => { s := (wf w a c).e && (wf w b c).e && (wf w e c).e }
  | .pl x, c => { e := (wf w x c).e, t := (wf w x c).t, i := (wf w x c).e, o := (wf w x c).e }
  | .rg a _ _, c => { i := glb c "range" && (wf w a c).a && (args1 a || args2 a || args3 a) }
  | .en a _ _, c => { iT := glb c "enumerate" && (wf w a c).a && args1 a }
  | .zp a _ _, c => { iT := glb c "zip" && (wf w a c).a && args2 a }
  | .ez a _ _ _ _, c => { iT := glb c "enumerate" && glb c "zip" && (wf w a c).a && args2 a }
  | .nil, _ => { a := true, ss := true, ks := true, gs := true, o := true, q := true }
  | .cons a b, c => { a := (wf w a c).e && (wf w b c).a, ss := (wf w a c).s && (wf w b c).ss, ks := (wf w a c).k && (wf w b c).ks, gs := (wf w a c).g && (wf w b c).gs, b := (wf w a c).e && (isNil b || (wf w b c).b), bt := (wf w a c).t && (isNil b || (wf w b c).bt), q := (wf w a c).t && isNil b }
  | .star a b _, c => { a := (wf w a c).e && (wf w b c).a }
  | .as t e _, c => { s := (wf w e c).e && (if isCp0 e && isVar t then (wf w t c).k else (wf w t c).k && !isCp e && (isBase t || (isTupT t && !isTupE e))) }
  | .pa ts es _ _ _ _ _, c => { s := (wf w es c).a && ((swNone c.sc (toEs ts) (toEs es) && (wf w ts c).ks && ns ts && ns es && decide (cnt ts = cnt es) && decide (cnt ts ≤ 1000)) || (swSome c.sc (toEs ts) (toEs es) && ((vars2 c ts && args2 es) || (vars3 c ts && decide (cnt es = 3) && ns es)))) }
  | .ag t _ e _, c => { s := (wf w e c).e && (wf w t c).g && isVar t }
  | .agI a b _ e _ _, c => { s := (wf w a c).e && (wf w b c).e && (wf w e c).e }
  | .iff d a b _, c => { s := (wf w d c).t && (wf w a c).ss && (wf w b c).ss }
  | .wh d b _, c => { s := (wf w d c).t && (wf w b c).ss }
  | .fo t it b _, c => { s := ((wf w it c).i || (isTupT t && (wf w it c).iT)) && (wf w t c).k && (wf w b c).ss }
  | .re e _, c => { s := (wf w e c).e }
  | .exs e _, c => { s := (wf w e c).e && !isCp e }
  | .bk _, _ => { s := true }
  | .ct _, _ => { s := true }
  | .ps _, _ => { s := true }
  | .ra _ _, _ => { s := true }
  | .xs _, _ => { s := true }
/-- what code may lean on -/
def bnames : List Str := ["len", "int", "abs", "max", "min", "sum", "all", "any", "tuple", "list", "sorted", "isinstance", "bool", "str", "dict", "range", "enumerate", "zip", "set"]
structure Gd (cl : Nat → Value) (w : Wd) (F : Nat → List Vl → Sr → R Vl) (c : Ct) (C : Cx) (E : XK) : Prop where
  calm : C.calm = true
  N : C.N = c.N
  nd : c.N.Nodup
  sc : C.env.scope = c.sc
  kd : c.sc.kind = .function
  fx : ∀ x, c.fx x = true → C.fn x = true
  tk : L2.Takes C fun k d _ H => E k d H
  gu : C.A.guards = some []
  gl : ∀ (i : Nat) (x : Str), w.gn[i]? = some x → ∃ (u : Value) (v : V) (d : P), C.mg x = some u ∧ RelV v u ∧ w.gl[i]? = some d ∧ ∀ m H, RepP C.K m H d v
  bn : ∀ x ∈ bnames, C.mg x = none
  lv : ∃ k, Room k C.A ∧ ∀ (i : Nat) (x : Str), w.fn[i]? = some x → ∃ (f : Addr) (fd : FuncData) (ps : List Str), C.mg x = some (.ref f) ∧ PySem.W.keepIn C.K (.ref f) = true ∧ L2.Binds C.K fd ps [] ∧ FnG cl C.prog C.w C.K C.mg C.base k f fd ps (F i) ∧ ∀ as st, F i as st ≠ .no → as.length = ps.length
section
variable {cl : Nat → Value} {w : Wd} {F : Nat → List Vl → Sr → R Vl} {c : Ct} {C : Cx} {E : XK}
theorem Gd.un (g : Gd cl w F c C E) : C.A.units + 65 < cLine := by
  obtain ⟨k, r, _⟩ := g.lv
  have := r.un
  omega
theorem Gd.blk (g : Gd cl w F c C E) {scope : Scope} (hk : scope.kind = .function) (s : Shared) (H : Hp) (Cc : Addr) (cs : List (Str × Addr)) (fp : List Addr) : Gd cl w F (c.blk scope) (C.blk s H scope (compEnvC scope cs Cc C.env) fp) (fun _ _ _ => False) := by
  refine ⟨g.calm, g.N, g.nd, ?_, hk, fun x h => h, ?_, g.gu, g.gl, g.bn, g.lv⟩
  · show L2.relS scope C.env.scope = L2.relS scope c.sc
    rw [g.sc]
  · rintro u s' ⟨a, B, sI, pins, σ, H, cls, d, e, I, nb, up, sky, na, os, ag, w⟩
    exact w.elim
theorem Gd.glb (g : Gd cl w F c C E) {x : Str} (h : glb c x = true) : Gl C x ∧ (x == ("__debug__" : Str)) = false ∧ x ≠ "__name__" := by
  unfold Mi.glb nmOk at h
  simp only [Bool.and_eq_true, beq_iff_eq, Bool.not_eq_true'] at h
  refine ⟨?_, by simpa using h.2.1.1, by simpa using h.2.2⟩
  show C.env.scope.names.lookup x = _
  rw [g.sc]
  exact h.1
theorem Gd.vis (g : Gd cl w F c C E) {i : Nat} {x : Str} (h : vis c i x = true) : C.N[i]? = some x ∧ Vis C.env.scope x ∧ (x == ("__debug__" : Str)) = false ∧ (x == ("__classdict__" : Str)) = false := by
  unfold Mi.vis nmOk at h
  simp only [Bool.and_eq_true, Bool.or_eq_true, beq_iff_eq, Bool.not_eq_true', decide_eq_true_eq] at h
  refine ⟨by rw [g.N]; exact h.1.1, ?_, by simpa using h.2.1.1, by simpa using h.2.1.2⟩
  rw [g.sc]
  rcases h.1.2 with (q | q) | q
  · exact .inl q
  · exact .inr (.inl q)
  · exact .inr (.inr q)
theorem Gd.loc (g : Gd cl w F c C E) {i : Nat} {x : Str} (h : loc c i x = true) : C.N.Nodup ∧ C.N[i]? = some x ∧ Loc C.env.scope x ∧ (C.fn x = true ∨ C.env.scope.names.lookup x = some .local) := by
  unfold Mi.loc at h
  simp only [Bool.and_eq_true, Bool.or_eq_true, beq_iff_eq, decide_eq_true_eq] at h
  refine ⟨by rw [g.N]; exact g.nd, by rw [g.N]; exact h.1, ?_, ?_⟩
  · rw [g.sc]
    rcases h.2 with q | q
    · exact .inl q
    · exact .inr q.1
  · rw [g.sc]
    rcases h.2 with q | q
    · exact .inr q
    · exact .inl (g.fx x q.2)
end
/-! ### shapes -/
theorem noMk (o : CmpOp) (t : T) : behindInMarks o (toE t) = false := by
  induction t with
  | pl x ih => exact ih
  | dwk x ih => exact ih
  | _ => rfl
theorem plainIx (t : T) : L2.PlainIx (toE t) := by
  induction t with
  | pl x ih => exact ih
  | dwk x ih => exact ih
  | _ => exact fun _ _ => rfl
theorem asgIx (a b : T) (pos : Pos) (env : Env) (v : Value) : assign (.Subscript (toE a) (toE b) pos) env v = (do
      let ov ← holding [v] (eval (toE a) env)
      let iv ← holding [v, ov] (eval (toE b) env)
      standAt pos
      holding [v, ov, iv] (setItem ov iv v)
      release [v, ov, iv] []) := by
  induction b with
  | pl x ih => exact ih
  | dwk x ih => exact ih
  | _ => rfl
theorem augIx (t : T) (ov iv new : Value) : augStore (toE t) ov iv new = (do holding [new, ov, iv] (setItem ov iv new); release [new, ov, iv] []; pure .next) := by
  induction t with
  | pl x ih => exact ih
  | dwk x ih => exact ih
  | _ => rfl
theorem asgCons (t : T) (es : List Expr) (env : Env) : assignEach (toE t :: es) env = (false, assign (toE t) env) :: assignEach es env := by
  induction t with
  | pl x ih => exact ih
  | dwk x ih => exact ih
  | _ => rfl
theorem asgEs (env : Env) : ∀ t : T, ns t = true → (assignEach (toEs t) env).length = cnt t ∧ (assignEach (toEs t) env).findIdx? (·.1) = none
  | .nil, _ => ⟨rfl, rfl⟩
  | .cons a b, h => by
    have ih := asgEs env b h
    show (assignEach (toE a :: toEs b) env).length = _ ∧ (assignEach (toE a :: toEs b) env).findIdx? (·.1) = none
    rw [asgCons]
    exact ⟨by simp [ih.1, cnt], by rw [List.findIdx?_cons]; simp [ih.2]⟩
theorem foldNo (t : T) (env : Env) (x : Value) : foldedSetIterable (toE t) env x = pure x := by
  induction t with
  | pl x ih => exact ih
  | dwk x ih => exact ih
  | _ => rfl
theorem swFalse (t : T) (h : isCp t = false) (tg : Option Expr) (l : Nat) (env : Env) : swapsWith (toE t) tg l env = pure false := by
  induction t with
  | pl x ih => exact ih h
  | dwk x ih => exact ih h
  | cp => cases h
  | dcp => cases h
  | _ => rfl
theorem swTup (a : T) (k : Nat) (p : Pos) (e : T) (h : isTupE e = false) (env : Env) : swappedStores [.Tuple (toEs a) k p] (toE e) env = pure none := by
  induction e with
  | pl x ih => exact ih h
  | dwk x ih => exact ih h
  | tup => cases h
  | _ => rfl
theorem swSts (t e : T) (h : (isBase t || (isTupT t && !isTupE e)) = true) (env : Env) : swappedStores [toE t] (toE e) env = pure none := by
  cases t with
  | v i x p => rfl
  | ix a b p => rfl
  | tup a k p =>
    have h' : isTupE e = false := by simpa [isBase, isTupT] using h
    exact swTup a k p e h' env
  | _ => cases h
section
variable (gl : List P) (F : Nat → List Vl → Sr → R Vl)
theorem a_len : ∀ (t : T), ns t = true → ∀ e s xs s', (sem gl F t).a e s = .ok xs s' → xs.length = cnt t
  | .nil, _, e, s, xs, s', h => by
    have h' : (.ok [] s : R (List Vl)) = .ok xs s' := h
    cases h'; rfl
  | .cons a b, hn, e, s, xs, s', h => by
    have h' : ((sem gl F a).e e s).bd (fun v s => ((sem gl F b).a e s).bd fun vs s => .ok (v :: vs) s) = .ok xs s' := h
    cases q : (sem gl F a).e e s with
    | ok v s1 =>
      rw [q] at h'
      have h2 : ((sem gl F b).a e s1).bd (fun vs s => .ok (v :: vs) s) = .ok xs s' := h'
      cases q2 : (sem gl F b).a e s1 with
      | ok vs s2 =>
        rw [q2] at h2
        cases h2
        simp [cnt, a_len b hn e s1 vs s' q2]
      | ex c x s => rw [q2] at h2; cases h2
      | no => rw [q2] at h2; cases h2
    | ex c x s => rw [q] at h'; cases h'
    | no => rw [q] at h'; cases h'
theorem only_no : onlyN .no := ⟨fun _ _ => ⟨by simp, by simp⟩, fun _ _ => by simp⟩
theorem only_ex {c : Nat} {x : P} {s : Sr} : onlyN (.ex c x s) := ⟨fun _ _ => ⟨by simp, by simp⟩, fun _ _ => by simp⟩
theorem only_nx {e : En} {s : Sr} : onlyN (.nx e s) := ⟨fun _ _ => ⟨by simp, by simp⟩, fun _ _ => by simp⟩
theorem only_bx {α : Type} {m : R α} {f : α → Sr → X} (h : ∀ a s, onlyN (f a s)) : onlyN (m.bx f) := by
  cases m with
  | ok a s => exact h a s
  | ex c x s => exact only_ex
  | no => exact only_no
theorem only_k (t : T) : (∀ v e s, onlyN ((sem gl F t).k v e s)) ∧ ∀ vs e s, onlyN ((sem gl F t).ks vs e s) := by
  induction t with
  | v i x p => exact ⟨fun v e s => only_nx, fun _ _ _ => only_no⟩
  | tup a k p ih =>
    refine ⟨fun v e s => ?_, fun _ _ _ => only_no⟩
    show onlyN (kTup (cnt a) (sem gl F a) v e s)
    unfold kTup
    split
    · split
      · exact ih.2 _ _ _
      · exact only_no
    · exact only_no
  | ix a b p iha ihb =>
    refine ⟨fun v e s => ?_, fun _ _ _ => only_no⟩
    refine only_bx fun o s => only_bx fun i s => ?_
    split
    · exact only_nx
    · exact only_no
  | nil =>
    refine ⟨fun _ _ _ => only_no, fun vs e s => ?_⟩
    show onlyN (ksNil vs e s)
    unfold ksNil
    split
    · exact only_nx
    · exact only_no
  | cons a b iha ihb =>
    refine ⟨fun _ _ _ => only_no, fun vs e s => ?_⟩
    show onlyN (ksCons (sem gl F a) (sem gl F b) vs e s)
    unfold ksCons
    split
    · rename_i v r
      have := iha.1 v e s
      cases q : (sem gl F a).k v e s with
      | nx e' s' => exact ihb.2 _ _ _
      | ex c x s' => exact only_ex
      | no => exact only_no
      | rt a s' => rw [q] at this; exact absurd rfl (this.2 a s')
      | bk e' s' => rw [q] at this; exact absurd rfl (this.1 e' s').1
      | ct e' s' => rw [q] at this; exact absurd rfl (this.1 e' s').2
    · exact only_no
  | _ => exact ⟨fun _ _ _ => only_no, fun _ _ _ => only_no⟩
end
end Mi
end
section
set_option Elab.async false
set_option linter.all false
set_option maxRecDepth 100000
set_option maxHeartbeats 2000000
/-! M20: every tree that asks no more than its context has does in Python what it does here. -/
namespace Mi
open PySem
open L2 (V HO Hp upd upd_same upd_ne SqL SqT Rd Cx Inv PE PT PA PS PSs PG PGs PI TE TT TA TS TG TGs TI It VK XK Ends RelV Vals ne_of_none OpR R2 EP CallR UnR IxR SlR TruR Gl Vis Loc Itl Itt Itr wipe Room)
structure Ok (cl : Nat → Value) (w : Wd) (F : Nat → List Vl → Sr → R Vl) (u : T) : Prop where
  e : ∀ c C E, Gd cl w F c C E → (wf w u c).e = true → PE C (toE u) (TrE C.K (WE cl E) (sem w.gl F u).e)
  t : ∀ c C E, Gd cl w F c C E → (wf w u c).t = true → PT C (toE u) (TrT C.K (WE cl E) fun e s => tst ((sem w.gl F u).e e s))
  a : ∀ c C E, Gd cl w F c C E → (wf w u c).a = true → PA C (toEs u) (TrA C.K (WE cl E) (sem w.gl F u).a)
  i : ∀ c C E, Gd cl w F c C E → (wf w u c).i = true → ∀ tg, PI C tg (toE u) (TrI C.K (WE cl E) (sem w.gl F u).i)
  iT : ∀ c C E, Gd cl w F c C E → (wf w u c).iT = true → ∀ elts kk tpos, PI C (.Tuple elts kk tpos) (toE u) (TrI C.K (WE cl E) (sem w.gl F u).i)
  s : ∀ c C E, Gd cl w F c C E → PassesOwn (model C.prog C.w) C.A C.env C.xe → (wf w u c).s = true → PS C (toS u) (TrS C.K (WE cl E) (sem w.gl F u).s)
  ss : ∀ c C E, Gd cl w F c C E → PassesOwn (model C.prog C.w) C.A C.env C.xe → (wf w u c).ss = true → PSs C (toSs u) (TrS C.K (WE cl E) (sem w.gl F u).s)
  k : ∀ c C E, Gd cl w F c C E → (wf w u c).k = true → PG C (toE u) (TrG C.K (WE cl E) (sem w.gl F u).k)
  ks : ∀ c C E, Gd cl w F c C E → (wf w u c).ks = true → PGs C (toEs u) (TrGs C.K (WE cl E) (sem w.gl F u).ks)
  b : ∀ c C E, Gd cl w F c C E → (wf w u c).b = true → ∀ op pos, PE C (.BoolOp op (toEs u) pos) (TrE C.K (WE cl E) ((sem w.gl F u).bo (op == .Or)))
  bt : ∀ c C E, Gd cl w F c C E → (wf w u c).bt = true → ∀ op pos, L2.PW C (.BoolOp op (toEs u) pos) (TrT C.K (WE cl E) fun e s => tst ((sem w.gl F u).bo (op == .Or) e s))
  g : ∀ c C E, Gd cl w F c C E → (wf w u c).g = true → PG C (toE u) (gE C.K u)
  gs : ∀ c C E, Gd cl w F c C E → (wf w u c).gs = true → PGs C (toEs u) (gEs C.K u)
  o : ∀ c C E, Gd cl w F c C E → (wf w u c).o = true → L2.PO C (toO u) (TrO C.K (WE cl E) (eOpt (sem w.gl F u)))
  q : ∀ c C E, Gd cl w F c C E → (wf w u c).q = true → L2.PTs C (toEs u) (TrT C.K (WE cl E) (cnd (sem w.gl F u)))
section
variable {cl : Nat → Value} {w : Wd} {F : Nat → List Vl → Sr → R Vl}
theorem args1_ex {a : T} (h : args1 a = true) : ∃ x, a = .cons x .nil := by
  unfold args1 at h
  split at h
  · exact ⟨_, rfl⟩
  · cases h
/-- an expression: its test is its value's -/
theorem Ok.ofE {t : T} (he : ∀ c C E, Gd cl w F c C E → (wf w t c).e = true → PE C (toE t) (TrE C.K (WE cl E) (sem w.gl F t).e))
    (ht : ∀ c C E, Gd cl w F c C E → (wf w t c).t = true → PT C (toE t) (TrT C.K (WE cl E) fun e s => tst ((sem w.gl F t).e e s)))
    (hk : ∀ c C E, Gd cl w F c C E → (wf w t c).k = true → PG C (toE t) (TrG C.K (WE cl E) (sem w.gl F t).k) := by intro _ _ _ _ h; cases h)
    (hg : ∀ c C E, Gd cl w F c C E → (wf w t c).g = true → PG C (toE t) (gE C.K t) := by intro _ _ _ _ h; cases h)
    (n : ∀ c, (wf w t c).a = false ∧ (wf w t c).i = false ∧ (wf w t c).iT = false ∧ (wf w t c).s = false ∧ (wf w t c).ss = false ∧ (wf w t c).ks = false ∧ (wf w t c).b = false ∧ (wf w t c).bt = false ∧ (wf w t c).gs = false ∧ (wf w t c).o = false ∧ (wf w t c).q = false := by intro _; exact ⟨rfl, rfl, rfl, rfl, rfl, rfl, rfl, rfl, rfl, rfl, rfl⟩) : Ok cl w F t := by
  refine ⟨he, ht, ?_, ?_, ?_, ?_, ?_, hk, ?_, ?_, ?_, hg, ?_, ?_, ?_⟩
  · intro c C E _ h; rw [(n c).1] at h; cases h
  · intro c C E _ h; rw [(n c).2.1] at h; cases h
  · intro c C E _ h; rw [(n c).2.2.1] at h; cases h
  · intro c C E _ _ h; rw [(n c).2.2.2.1] at h; cases h
  · intro c C E _ _ h; rw [(n c).2.2.2.2.1] at h; cases h
  · intro c C E _ h; rw [(n c).2.2.2.2.2.1] at h; cases h
  · intro c C E _ h; rw [(n c).2.2.2.2.2.2.1] at h; cases h
  · intro c C E _ h; rw [(n c).2.2.2.2.2.2.2.1] at h; cases h
  · intro c C E _ h; rw [(n c).2.2.2.2.2.2.2.2.1] at h; cases h
  · intro c C E _ h; rw [(n c).2.2.2.2.2.2.2.2.2.1] at h; cases h
  · intro c C E _ h; rw [(n c).2.2.2.2.2.2.2.2.2.2] at h; cases h
/-- a statement -/
theorem Ok.ofS {t : T} (hs : ∀ c C E, Gd cl w F c C E → PassesOwn (model C.prog C.w) C.A C.env C.xe → (wf w t c).s = true → PS C (toS t) (TrS C.K (WE cl E) (sem w.gl F t).s))
    (n : ∀ c, (wf w t c).e = false ∧ (wf w t c).t = false ∧ (wf w t c).a = false ∧ (wf w t c).i = false ∧ (wf w t c).iT = false ∧ (wf w t c).ss = false ∧ (wf w t c).k = false ∧ (wf w t c).ks = false ∧ (wf w t c).b = false ∧ (wf w t c).bt = false ∧ (wf w t c).g = false ∧ (wf w t c).gs = false ∧ (wf w t c).o = false ∧ (wf w t c).q = false := by intro _; exact ⟨rfl, rfl, rfl, rfl, rfl, rfl, rfl, rfl, rfl, rfl, rfl, rfl, rfl, rfl⟩) : Ok cl w F t := by
  refine ⟨?_, ?_, ?_, ?_, ?_, hs, ?_, ?_, ?_, ?_, ?_, ?_, ?_, ?_, ?_⟩
  · intro c C E _ h; rw [(n c).1] at h; cases h
  · intro c C E _ h; rw [(n c).2.1] at h; cases h
  · intro c C E _ h; rw [(n c).2.2.1] at h; cases h
  · intro c C E _ h; rw [(n c).2.2.2.1] at h; cases h
  · intro c C E _ h; rw [(n c).2.2.2.2.1] at h; cases h
  · intro c C E _ _ h; rw [(n c).2.2.2.2.2.1] at h; cases h
  · intro c C E _ h; rw [(n c).2.2.2.2.2.2.1] at h; cases h
  · intro c C E _ h; rw [(n c).2.2.2.2.2.2.2.1] at h; cases h
  · intro c C E _ h; rw [(n c).2.2.2.2.2.2.2.2.1] at h; cases h
  · intro c C E _ h; rw [(n c).2.2.2.2.2.2.2.2.2.1] at h; cases h
  · intro c C E _ h; rw [(n c).2.2.2.2.2.2.2.2.2.2.1] at h; cases h
  · intro c C E _ h; rw [(n c).2.2.2.2.2.2.2.2.2.2.2.1] at h; cases h
  · intro c C E _ h; rw [(n c).2.2.2.2.2.2.2.2.2.2.2.2.1] at h; cases h
  · intro c C E _ h; rw [(n c).2.2.2.2.2.2.2.2.2.2.2.2.2] at h; cases h
theorem and1 {a b : Bool} (h : (a && b) = true) : a = true ∧ b = true := (Bool.and_eq_true a b).mp h
theorem and3 {a b c : Bool} (h : (a && b && c) = true) : a = true ∧ b = true ∧ c = true := let ⟨h1, h2⟩ := and1 h; let ⟨h3, h4⟩ := and1 h1; ⟨h3, h4, h2⟩
theorem and4 {a b c d : Bool} (h : (a && b && c && d) = true) : a = true ∧ b = true ∧ c = true ∧ d = true := let ⟨h1, h2⟩ := and1 h; let ⟨h3, h4, h5⟩ := and3 h1; ⟨h3, h4, h5, h2⟩
theorem ok_c (x : Const) (k : Nat) (p : Pos) : Ok cl w F (.c x k p) := by
  have he : ∀ c C E, Gd cl w F c C E → (wf w (.c x k p) c).e = true → PE C (toE (.c x k p)) (TrE C.K (WE cl E) (sem w.gl F (.c x k p)).e) := fun c C E g h => by
    obtain ⟨d, hd⟩ := Option.isSome_iff_exists.mp h
    exact xC hd
  exact .ofE he fun c C E g h => tVal (he c C E g h) fun _ => rfl
theorem ok_v (i : Nat) (x : Str) (p : Pos) : Ok cl w F (.v i x p) := by
  have he : ∀ c C E, Gd cl w F c C E → (wf w (.v i x p) c).e = true → PE C (toE (.v i x p)) (TrE C.K (WE cl E) (sem w.gl F (.v i x p)).e) := fun c C E g h => by
    obtain ⟨h1, h2, h3, h4⟩ := g.vis h
    exact xV h1 h2 h3 h4
  refine .ofE he (fun c C E g h => tVal (he c C E g h) fun _ => rfl) (fun c C E g h => ?_) fun c C E g h => ?_
  · obtain ⟨h1, h2, h3, h4⟩ := g.loc h
    exact gNm h1 h2 h3 h4
  · obtain ⟨h1, h2, h3, h4⟩ := g.loc h
    exact L2.pg_name h1 h2 h3 h4
theorem ok_g (i : Nat) (x : Str) (p : Pos) : Ok cl w F (.g i x p) := by
  have he : ∀ c C E, Gd cl w F c C E → (wf w (.g i x p) c).e = true → PE C (toE (.g i x p)) (TrE C.K (WE cl E) (sem w.gl F (.g i x p)).e) := fun c C E g h => by
    obtain ⟨h1, h2⟩ := and1 h
    obtain ⟨u, v, d, q1, q2, q3, q4⟩ := g.gl i x (of_decide_eq_true h1)
    obtain ⟨g1, g2, g3⟩ := g.glb h2
    exact xG g1 q1 q2 g2 q3 q4
  exact .ofE he fun c C E g h => tVal (he c C E g h) fun _ => rfl
theorem ok_tup {a : T} (k : Nat) (p : Pos) (iha : Ok cl w F a) : Ok cl w F (.tup a k p) := by
  have he : ∀ c C E, Gd cl w F c C E → (wf w (.tup a k p) c).e = true → PE C (toE (.tup a k p)) (TrE C.K (WE cl E) (sem w.gl F (.tup a k p)).e) := fun c C E g h => xTup (iha.a c C E g h)
  refine .ofE he (fun c C E g h => tVal (he c C E g h) fun _ => rfl) (fun c C E g h => ?_) fun c C E g h => ?_
  · obtain ⟨h1, h2⟩ := and1 h
    obtain ⟨n1, n2⟩ := asgEs C.env a h2
    exact gTup g.calm (iha.ks c C E g h1) n1 n2
  · obtain ⟨h1, h2⟩ := and1 h
    obtain ⟨n1, n2⟩ := asgEs C.env a h2
    exact L2.pg_tup g.calm (iha.gs c C E g h1) n1 n2
theorem ok_lst {a : T} (m : Bool) (p : Pos) (iha : Ok cl w F a) : Ok cl w F (.lst m a p) := by
  have he : ∀ c C E, Gd cl w F c C E → (wf w (.lst m a p) c).e = true → PE C (toE (.lst m a p)) (TrE C.K (WE cl E) (sem w.gl F (.lst m a p)).e) := fun c C E g h => xLst (iha.a c C E g h)
  exact .ofE he fun c C E g h => tVal (he c C E g h) fun _ => rfl
theorem ok_ix {a b : T} (p : Pos) (iha : Ok cl w F a) (ihb : Ok cl w F b) : Ok cl w F (.ix a b p) := by
  have he : ∀ c C E, Gd cl w F c C E → (wf w (.ix a b p) c).e = true → PE C (toE (.ix a b p)) (TrE C.K (WE cl E) (sem w.gl F (.ix a b p)).e) := fun c C E g h => xIx (iha.e c C E g (and1 h).1) (ihb.e c C E g (and1 h).2) (plainIx b)
  exact .ofE he (fun c C E g h => tVal (he c C E g h) fun _ => rfl) fun c C E g h => gIx (iha.e c C E g (and1 h).1) (ihb.e c C E g (and1 h).2) (asgIx a b p C.env)
theorem ok_sl {a lo hi : T} (p p2 : Pos) (iha : Ok cl w F a) (ihl : Ok cl w F lo) (ihh : Ok cl w F hi) : Ok cl w F (.sl a lo hi p p2) := by
  have he : ∀ c C E, Gd cl w F c C E → (wf w (.sl a lo hi p p2) c).e = true → PE C (toE (.sl a lo hi p p2)) (TrE C.K (WE cl E) (sem w.gl F (.sl a lo hi p p2)).e) := fun c C E g h =>
    xSl (iha.e c C E g (and3 h).1) (ihl.o c C E g (and3 h).2.1) (ihh.o c C E g (and3 h).2.2)
  exact .ofE he fun c C E g h => tVal (he c C E g h) fun _ => rfl
theorem ok_rv {a : T} (k : Nat) (p p1 p2 p3 : Pos) (iha : Ok cl w F a) : Ok cl w F (.rv a k p p1 p2 p3) := by
  have he : ∀ c C E, Gd cl w F c C E → (wf w (.rv a k p p1 p2 p3) c).e = true → PE C (toE (.rv a k p p1 p2 p3)) (TrE C.K (WE cl E) (sem w.gl F (.rv a k p p1 p2 p3)).e) := fun c C E g h => xRv (iha.e c C E g h)
  exact .ofE he fun c C E g h => tVal (he c C E g h) fun _ => rfl
theorem ok_bin {a b : T} (o : Operator) (p : Pos) (iha : Ok cl w F a) (ihb : Ok cl w F b) : Ok cl w F (.bin a o b p) := by
  have he : ∀ c C E, Gd cl w F c C E → (wf w (.bin a o b p) c).e = true → PE C (toE (.bin a o b p)) (TrE C.K (WE cl E) (sem w.gl F (.bin a o b p)).e) := fun c C E g h => xBin (iha.e c C E g (and1 h).1) (ihb.e c C E g (and1 h).2)
  exact .ofE he fun c C E g h => tVal (he c C E g h) fun _ => rfl
theorem ok_neg {a : T} (p : Pos) (iha : Ok cl w F a) : Ok cl w F (.neg a p) := by
  have he : ∀ c C E, Gd cl w F c C E → (wf w (.neg a p) c).e = true → PE C (toE (.neg a p)) (TrE C.K (WE cl E) (sem w.gl F (.neg a p)).e) := fun c C E g h => xNeg (iha.e c C E g h)
  exact .ofE he fun c C E g h => tVal (he c C E g h) fun _ => rfl
theorem ok_nt {a : T} (p : Pos) (iha : Ok cl w F a) : Ok cl w F (.nt a p) :=
  .ofE (fun c C E g h => xNt (iha.e c C E g h)) fun c C E g h => tNt (ft := fun _ _ => .no) (iha.t c C E g h)
theorem ok_cmp {a b : T} (o : CmpOp) (p : Pos) (iha : Ok cl w F a) (ihb : Ok cl w F b) : Ok cl w F (.cmp a o b p) :=
  .ofE (fun c C E g h => xCmp g.un (noMk o b) (iha.e c C E g (and1 h).1) (ihb.e c C E g (and1 h).2)) fun c C E g h => tCmp g.un (noMk o b) (iha.e c C E g (and1 h).1) (ihb.e c C E g (and1 h).2)
theorem ok_cm2 {a b d : T} (o q : CmpOp) (p : Pos) (iha : Ok cl w F a) (ihb : Ok cl w F b) (ihd : Ok cl w F d) : Ok cl w F (.cm2 a o b q d p) :=
  .ofE (fun c C E g h => xCm2 g.un (noMk q d) (iha.e c C E g (and3 h).1) (ihb.e c C E g (and3 h).2.1) (ihd.e c C E g (and3 h).2.2)) fun c C E g h => tCm2 g.un (noMk q d) (iha.e c C E g (and3 h).1) (ihb.e c C E g (and3 h).2.1) (ihd.e c C E g (and3 h).2.2)
theorem ok_bo {a : T} (o : BoolOp) (p : Pos) (iha : Ok cl w F a) : Ok cl w F (.bo o a p) :=
  .ofE (fun c C E g h => iha.b c C E g h o p) fun c C E g h => (iha.bt c C E g h o p).pt
theorem ok_ite {d a b : T} (p : Pos) (ihd : Ok cl w F d) (iha : Ok cl w F a) (ihb : Ok cl w F b) : Ok cl w F (.ite d a b p) :=
  .ofE (fun c C E g h => xIte (ihd.t c C E g (and3 h).1) (iha.e c C E g (and3 h).2.1) (ihb.e c C E g (and3 h).2.2)) fun c C E g h => by cases h
theorem ns1_ex {a : T} (h : ns1 a = true) : ∃ x r, a = .cons x r ∧ ns r = true := by
  cases a with
  | cons x r => exact ⟨x, r, rfl, h⟩
  | _ => cases h
theorem bn_mem (f : Bi) : biN f ∈ bnames := by cases f <;> simp [biN, bnames]
theorem ty_mem {ty : Str} (h : okTy ty = true) : ty ∈ bnames := by
  unfold okTy at h
  simp only [Bool.or_eq_true, beq_iff_eq] at h
  rcases h with ((((rfl | rfl) | rfl) | rfl) | rfl) | rfl <;> simp [bnames]
theorem ok_bi {a : T} (f : Bi) (x : Str) (p0 p : Pos) (iha : Ok cl w F a) : Ok cl w F (.bi f x a p0 p) := by
  have he : ∀ c C E, Gd cl w F c C E → (wf w (.bi f x a p0 p) c).e = true → PE C (toE (.bi f x a p0 p)) (TrE C.K (WE cl E) (sem w.gl F (.bi f x a p0 p)).e) := fun c C E g h => by
    obtain ⟨h1, h2, h3, h4⟩ := and4 h
    have hx := of_decide_eq_true h1
    subst hx
    obtain ⟨y, r, rfl, hr⟩ := ns1_ex h4
    exact xBi g.calm g.un (g.glb h2).1 (g.bn _ (bn_mem f)) hr (iha.a c C E g h3)
  exact .ofE he fun c C E g h => tVal (he c C E g h) fun _ => rfl
theorem ok_isi {a : T} (ty : Str) (p0 p1 p : Pos) (iha : Ok cl w F a) : Ok cl w F (.isi a ty p0 p1 p) := by
  have he : ∀ c C E, Gd cl w F c C E → (wf w (.isi a ty p0 p1 p) c).e = true → PE C (toE (.isi a ty p0 p1 p)) (TrE C.K (WE cl E) (sem w.gl F (.isi a ty p0 p1 p)).e) := fun c C E g h => by
    obtain ⟨h1, h2, h3, h4⟩ := and4 h
    exact xIsi h1 (g.glb h2).1 (g.bn _ (by simp [bnames])) (g.glb h3).1 (g.bn _ (ty_mem h1)) (iha.e c C E g h4)
  exact .ofE he fun c C E g h => tVal (he c C E g h) fun _ => rfl
theorem ok_cal {a : T} (f : Nat) (m : Bool) (x : Str) (p0 p : Pos) (iha : Ok cl w F a) : Ok cl w F (.cal f m x a p0 p) := by
  have he : ∀ c C E, Gd cl w F c C E → (wf w (.cal f m x a p0 p) c).e = true → PE C (toE (.cal f m x a p0 p)) (TrE C.K (WE cl E) (sem w.gl F (.cal f m x a p0 p)).e) := fun c C E g h => by
    obtain ⟨h1, h2, h3, h4⟩ := and4 h
    obtain ⟨k, hr, hf⟩ := g.lv
    obtain ⟨fa, fd, ps, q1, q2, q3, q4, q5⟩ := hf f x (of_decide_eq_true h1)
    obtain ⟨g1, g2, g3⟩ := g.glb h2
    have ha := iha.a c C E g h3
    cases a with
    | nil => exact xCal0 q4 hr g.gu q3 g.tk q5 g1 q1 q2 g2 fun _ _ => rfl
    | cons y r => exact xCal q4 hr g.gu q3 g.tk q5 g1 q1 q2 g2 h4 ha
    | _ => cases h4
  exact .ofE he fun c C E g h => tVal (he c C E g h) fun _ => rfl
theorem ok_lzp {a : T} (p0 p1 p2 p : Pos) (iha : Ok cl w F a) : Ok cl w F (.lzp a p0 p1 p2 p) := by
  have he : ∀ c C E, Gd cl w F c C E → (wf w (.lzp a p0 p1 p2 p) c).e = true → PE C (toE (.lzp a p0 p1 p2 p)) (TrE C.K (WE cl E) (sem w.gl F (.lzp a p0 p1 p2 p)).e) := fun c C E g h => by
    obtain ⟨h1, h2, h3, h4⟩ := and4 h
    obtain ⟨y, r, rfl, hr⟩ := ns1_ex h4
    exact xLzp g.calm (g.glb h1).1 (g.bn _ (by simp [bnames])) (g.glb h2).1 (g.bn _ (by simp [bnames])) hr (iha.a c C E g h3)
  exact .ofE he fun c C E g h => tVal (he c C E g h) fun _ => rfl
theorem ok_lsm {a : T} (p0 p : Pos) (iha : Ok cl w F a) : Ok cl w F (.lsm a p0 p) := by
  refine .ofE (fun c C E g h => ?_) fun c C E g h => by cases h
  obtain ⟨h1, h2, h3⟩ := and3 h
  obtain ⟨x, rfl⟩ := args1_ex h3
  exact xLsm (g.glb h1).1 (g.bn _ (by simp [bnames])) (iha.a c C E g h2)
theorem ok_rpm {a b : T} (p : Pos) (iha : Ok cl w F a) (ihb : Ok cl w F b) : Ok cl w F (.rpm a b p) :=
  .ofE (fun c C E g h => xRpm (iha.e c C E g (and1 h).1) (ihb.e c C E g (and1 h).2)) fun c C E g h => by cases h
theorem ok_lrg {a : T} (x : Str) (p0 p1 p2 p : Pos) (iha : Ok cl w F a) : Ok cl w F (.lrg x a p0 p1 p2 p) := by
  have he : ∀ c C E, Gd cl w F c C E → (wf w (.lrg x a p0 p1 p2 p) c).e = true → PE C (toE (.lrg x a p0 p1 p2 p)) (TrE C.K (WE cl E) (sem w.gl F (.lrg x a p0 p1 p2 p)).e) := fun c C E g h => by
    obtain ⟨h1234, h5⟩ := and1 h
    obtain ⟨h1, h2, h3, h4⟩ := and4 h1234
    have hx := of_decide_eq_true h1
    subst hx
    obtain ⟨y, r, rfl, hr⟩ := ns1_ex h5
    exact xLrg g.calm (g.glb h2).1 (g.bn _ (by simp [bnames])) (g.glb h3).1 (g.bn _ (by simp [bnames])) hr (iha.a c C E g h4)
  exact .ofE he fun c C E g h => tVal (he c C E g h) fun _ => rfl
theorem ok_sb {a : T} (b : Bool) (p0 p1 p2 p : Pos) (iha : Ok cl w F a) : Ok cl w F (.sb b a p0 p1 p2 p) := by
  have he : ∀ c C E, Gd cl w F c C E → (wf w (.sb b a p0 p1 p2 p) c).e = true → PE C (toE (.sb b a p0 p1 p2 p)) (TrE C.K (WE cl E) (sem w.gl F (.sb b a p0 p1 p2 p)).e) := fun c C E g h => by
    obtain ⟨h2, h3, h4⟩ := and3 h
    cases b with
    | true => exact xSetS g.calm (g.glb h2).1 (g.bn _ (by simp [bnames])) (g.glb h3).1 (g.bn _ (by simp [bnames])) (iha.e c C E g h4)
    | false => exact xSet0 g.calm (g.glb h2).1 (g.bn _ (by simp [bnames])) (g.glb h3).1 (g.bn _ (by simp [bnames])) (iha.e c C E g h4)
  exact .ofE he fun c C E g h => tVal (he c C E g h) fun _ => rfl
theorem ok_met {o a : T} (f : Me) (p0 p : Pos) (iho : Ok cl w F o) (iha : Ok cl w F a) : Ok cl w F (.met f o a p0 p) := by
  refine .ofE (fun c C E g h => ?_) fun c C E g h => by cases h
  obtain ⟨h1234, h5⟩ := and1 h
  obtain ⟨h1, h2, h3, h4⟩ := and4 h1234
  have hb : ∀ nm, attributeBase (toE o) nm C.env (eval (toE o) C.env) = eval (toE o) C.env := fun nm => by
    cases o with
    | v => rfl
    | ix => rfl
    | _ => cases h4
  cases f with
  | rem =>
    obtain ⟨x, rfl⟩ := args1_ex h5
    exact xRem hb h3 (iho.e c C E g h1) (iha.a c C E g h2)
  | pop =>
    obtain ⟨x, rfl⟩ := args1_ex h5
    exact xPop hb h3 (iho.e c C E g h1) (iha.a c C E g h2)
  | ext =>
    obtain ⟨x, rfl⟩ := args1_ex h5
    exact xExt hb h3 (iho.e c C E g h1) (iha.a c C E g h2)
  | _ => cases h5
theorem ok_app {o x : T} (p0 p : Pos) (iho : Ok cl w F o) (ihx : Ok cl w F x) : Ok cl w F (.app o x p0 p) := by
  refine .ofE (fun c C E g h => ?_) fun c C E g h => by cases h
  obtain ⟨h1, h2, h3, h4⟩ := and4 h
  refine xApp (fun nm => ?_) h3 (iho.e c C E g h1) (ihx.e c C E g h2)
  cases o with
  | v => rfl
  | ix => rfl
  | _ => cases h4
/-! dicts -/
theorem ok_dct0 (p : Pos) : Ok cl w F (.dct0 p) := .ofE (fun c C E g h => xD0) fun c C E g h => by cases h
theorem ok_dct1 {a b : T} (p : Pos) (iha : Ok cl w F a) (ihb : Ok cl w F b) : Ok cl w F (.dct1 a b p) := .ofE (fun c C E g h => xD1 (iha.e c C E g (and1 h).1) (ihb.e c C E g (and1 h).2)) fun c C E g h => by cases h
theorem ok_dix {a b : T} (p : Pos) (iha : Ok cl w F a) (ihb : Ok cl w F b) : Ok cl w F (.dix a b p) := by
  have he : ∀ c C E, Gd cl w F c C E → (wf w (.dix a b p) c).e = true → PE C (toE (.dix a b p)) (TrE C.K (WE cl E) (sem w.gl F (.dix a b p)).e) := fun c C E g h => xDix g.un (iha.e c C E g (and1 h).1) (ihb.e c C E g (and1 h).2) (plainIx b)
  exact .ofE he fun c C E g h => tVal (he c C E g h) fun _ => rfl
theorem ok_din {a b : T} (n : Bool) (p : Pos) (iha : Ok cl w F a) (ihb : Ok cl w F b) : Ok cl w F (.din n a b p) :=
  .ofE (fun c C E g h => xDin g.un (noMk _ b) (iha.e c C E g (and1 h).1) (ihb.e c C E g (and1 h).2)) fun c C E g h => tDin g.un (noMk _ b) (iha.e c C E g (and1 h).1) (ihb.e c C E g (and1 h).2)
theorem base_at {o : T} (h : isBase o = true) {C : Cx} : ∀ nm, attributeBase (toE o) nm C.env (eval (toE o) C.env) = eval (toE o) C.env := fun nm => by
  cases o with
  | v => rfl
  | ix => rfl
  | _ => cases h
theorem args2_ex' {a : T} (h : args2 a = true) : ∃ x y, a = .cons x (.cons y .nil) := by
  unfold args2 at h
  split at h
  · exact ⟨_, _, rfl⟩
  · cases h
theorem ok_dme {o a : T} (f : Me) (p0 p : Pos) (iho : Ok cl w F o) (iha : Ok cl w F a) : Ok cl w F (.dme f o a p0 p) := by
  refine .ofE (fun c C E g h => ?_) fun c C E g h => by cases h
  obtain ⟨h1234, h5⟩ := and1 h
  obtain ⟨h1, h2, h3, h4⟩ := and4 h1234
  cases f with
  | sd =>
    obtain ⟨x, y, rfl⟩ := args2_ex' h5
    exact xDme2 (.inl rfl) g.un (base_at h4) h3 (iho.e c C E g h1) (iha.a c C E g h2)
  | gt =>
    rcases (Bool.or_eq_true _ _).mp h5 with q | q
    · obtain ⟨x, rfl⟩ := args1_ex q
      exact xDme1 g.un (base_at h4) h3 (iho.e c C E g h1) (iha.a c C E g h2)
    · obtain ⟨x, y, rfl⟩ := args2_ex' q
      exact xDme2 (.inr rfl) g.un (base_at h4) h3 (iho.e c C E g h1) (iha.a c C E g h2)
  | _ => cases h5
/-- the parts of a comprehension -/
theorem cp_parts {elt tg it cond : T} {sc : Scope} {own : List (Str × Nat)} {c : Ct} {C : Cx} {E : XK} (g : Gd cl w F c C E)
    (h : (((wf w it c).i || (isTupT tg && (wf w it c).iT)) && L2.blkC c.N c.sc sc own && nmT (own.map (·.2)) tg && (wf w tg (c.blk sc)).g && (wf w cond (c.blk sc)).q && (wf w elt (c.blk sc)).e) = true)
    (ihe : Ok cl w F elt) (iht : Ok cl w F tg) (ihi : Ok cl w F it) (ihc : Ok cl w F cond) :
    PI C (toE tg) (toE it) (TrI C.K (WE cl E) (sem w.gl F it).i) ∧ L2.BlkOk C.N C.env.scope sc own ∧ nmT (own.map (·.2)) tg = true ∧
    (∀ (s : Shared) (H : Hp) (Cc : Addr) (cs : List (Str × Addr)) (fp : List Addr), PG (C.blk s H sc (compEnvC sc cs Cc C.env) fp) (toE tg) (gE C.K tg)) ∧
    (∀ (s : Shared) (H : Hp) (Cc : Addr) (cs : List (Str × Addr)) (fp : List Addr), L2.PTs (C.blk s H sc (compEnvC sc cs Cc C.env) fp) (toEs cond) (TrT C.K W0 (cnd (sem w.gl F cond)))) ∧
    (∀ (s : Shared) (H : Hp) (Cc : Addr) (cs : List (Str × Addr)) (fp : List Addr), PE (C.blk s H sc (compEnvC sc cs Cc C.env) fp) (toE elt) (TrE C.K W0 (sem w.gl F elt).e)) := by
  obtain ⟨h12345, h6⟩ := and1 h
  obtain ⟨h1234, h5⟩ := and1 h12345
  obtain ⟨h1, h2, h3, h4⟩ := and4 h1234
  have ok : L2.BlkOk C.N C.env.scope sc own := by rw [g.N, g.sc]; exact L2.blkOk_by h2
  have gb := fun s H Cc cs fp => g.blk ok.kind s H Cc cs fp
  refine ⟨?_, ok, h3, fun s H Cc cs fp => iht.g _ _ _ (gb s H Cc cs fp) h4, fun s H Cc cs fp => ihc.q _ _ _ (gb s H Cc cs fp) h5, fun s H Cc cs fp => ihe.e _ _ _ (gb s H Cc cs fp) h6⟩
  rcases (Bool.or_eq_true _ _).mp h1 with q | q
  · exact ihi.i c C E g q _
  · obtain ⟨q1, q2⟩ := and1 q
    cases tg with
    | tup a k p => exact ihi.iT c C E g q2 _ _ _
    | _ => cases q1
theorem ok_cp {elt tg it cond : T} (m : Bool) (sc : Scope) (own : List (Str × Nat)) (p : Pos) (ihe : Ok cl w F elt) (iht : Ok cl w F tg) (ihi : Ok cl w F it) (ihc : Ok cl w F cond) : Ok cl w F (.cp m elt tg it cond sc own p) := by
  have he : ∀ c C E, Gd cl w F c C E → (wf w (.cp m elt tg it cond sc own p) c).e = true → PE C (toE (.cp m elt tg it cond sc own p)) (TrE C.K (WE cl E) (sem w.gl F (.cp m elt tg it cond sc own p)).e) := fun c C E g h => by
    obtain ⟨h1, h2, h3, h4, h5, h6⟩ := cp_parts g h ihe iht ihi ihc
    exact xCp (m := m) g.calm (by rw [g.N]; exact g.nd) h1 h2 h3 h4 h5 h6 (foldNo it C.env)
  exact .ofE he fun c C E g h => tVal (he c C E g h) fun _ => rfl
theorem ok_dcp {kx vx tg it cond : T} (sc : Scope) (own : List (Str × Nat)) (p : Pos) (ihk : Ok cl w F kx) (ihe : Ok cl w F vx) (iht : Ok cl w F tg) (ihi : Ok cl w F it) (ihc : Ok cl w F cond) : Ok cl w F (.dcp kx vx tg it cond sc own p) := by
  refine .ofE (fun c C E g h => ?_) fun c C E g h => by cases h
  obtain ⟨h0, hk⟩ := and1 h
  obtain ⟨h1, h2, h3, h4, h5, h6⟩ := cp_parts g h0 ihe iht ihi ihc
  exact xDc g.calm (by rw [g.N]; exact g.nd) h1 h2 h3 h4 h5 (fun s H Cc cs fp => ihk.e _ _ _ (g.blk h2.kind s H Cc cs fp) hk) h6 (foldNo it C.env)
end
end Mi
end
section
set_option Elab.async false
set_option linter.all false
set_option maxRecDepth 100000
set_option maxHeartbeats 2000000
/-! M21: iterators, lists, statements; all trees. -/
namespace Mi
open PySem
open L2 (V HO Hp upd upd_same upd_ne SqL SqT Rd Cx Inv PE PT PA PS PSs PG PGs PI TE TT TA TS TG TGs TI It VK XK Ends RelV Vals ne_of_none OpR R2 EP CallR UnR IxR SlR TruR Gl Vis Loc Itl Itt Itr wipe Room)
section
variable {cl : Nat → Value} {w : Wd} {F : Nat → List Vl → Sr → R Vl}
/-- what the shapes leave out -/
structure Off (w : Wd) (u : T) : Prop where
  e : ∀ c, (wf w u c).e = false := by intro _; rfl
  t : ∀ c, (wf w u c).t = false := by intro _; rfl
  a : ∀ c, (wf w u c).a = false := by intro _; rfl
  i : ∀ c, (wf w u c).i = false := by intro _; rfl
  iT : ∀ c, (wf w u c).iT = false := by intro _; rfl
  s : ∀ c, (wf w u c).s = false := by intro _; rfl
  ss : ∀ c, (wf w u c).ss = false := by intro _; rfl
  k : ∀ c, (wf w u c).k = false := by intro _; rfl
  ks : ∀ c, (wf w u c).ks = false := by intro _; rfl
theorem ff {b : Bool} {p : Prop} (h : b = false) (q : b = true) : p := by rw [h] at q; cases q
theorem ok_pl {x : T} (ih : Ok cl w F x) : Ok cl w F (.pl x) where
  e := fun c C E g h => ih.e c C E g h
  t := fun c C E g h => ih.t c C E g h
  a := fun c C E g h => ff rfl h
  i := fun c C E g h tg => iPlain (ih.e c C E g h)
  iT := fun c C E g h => ff rfl h
  s := fun c C E g _ h => ff rfl h
  ss := fun c C E g _ h => ff rfl h
  k := fun c C E g h => ff rfl h
  ks := fun c C E g h => ff rfl h
  b := fun c C E g h => ff rfl h
  bt := fun c C E g h => ff rfl h
  g := fun c C E g h => ff rfl h
  gs := fun c C E g h => ff rfl h
  o := fun c C E g h => oSome (fun _ _ => rfl) (ih.e c C E g h)
  q := fun c C E g h => ff rfl h
theorem args2_ex {a : T} (h : args2 a = true) : ∃ x y, a = .cons x (.cons y .nil) := by
  unfold args2 at h
  split at h
  · exact ⟨_, _, rfl⟩
  · cases h
theorem args3_ex {a : T} (h : args3 a = true) : ∃ x y z, a = .cons x (.cons y (.cons z .nil)) := by
  unfold args3 at h
  split at h
  · exact ⟨_, _, _, rfl⟩
  · cases h
theorem ok_it {u : T} (hi : ∀ c C E, Gd cl w F c C E → (wf w u c).i = true → ∀ tg, PI C tg (toE u) (TrI C.K (WE cl E) (sem w.gl F u).i))
    (hT : ∀ c C E, Gd cl w F c C E → (wf w u c).iT = true → ∀ elts kk tpos, PI C (.Tuple elts kk tpos) (toE u) (TrI C.K (WE cl E) (sem w.gl F u).i))
    (n : ∀ c, (wf w u c).e = false ∧ (wf w u c).t = false ∧ (wf w u c).a = false ∧ (wf w u c).s = false ∧ (wf w u c).ss = false ∧ (wf w u c).k = false ∧ (wf w u c).ks = false ∧ (wf w u c).b = false ∧ (wf w u c).bt = false ∧ (wf w u c).g = false ∧ (wf w u c).gs = false ∧ (wf w u c).o = false ∧ (wf w u c).q = false) : Ok cl w F u where
  e := fun c C E g h => ff (n c).1 h
  t := fun c C E g h => ff (n c).2.1 h
  a := fun c C E g h => ff (n c).2.2.1 h
  i := hi
  iT := hT
  s := fun c C E g _ h => ff (n c).2.2.2.1 h
  ss := fun c C E g _ h => ff (n c).2.2.2.2.1 h
  k := fun c C E g h => ff (n c).2.2.2.2.2.1 h
  ks := fun c C E g h => ff (n c).2.2.2.2.2.2.1 h
  b := fun c C E g h => ff (n c).2.2.2.2.2.2.2.1 h
  bt := fun c C E g h => ff (n c).2.2.2.2.2.2.2.2.1 h
  g := fun c C E g h => ff (n c).2.2.2.2.2.2.2.2.2.1 h
  gs := fun c C E g h => ff (n c).2.2.2.2.2.2.2.2.2.2.1 h
  o := fun c C E g h => ff (n c).2.2.2.2.2.2.2.2.2.2.2.1 h
  q := fun c C E g h => ff (n c).2.2.2.2.2.2.2.2.2.2.2.2 h
theorem ok_rg {a : T} (p0 p : Pos) (iha : Ok cl w F a) : Ok cl w F (.rg a p0 p) := by
  refine ok_it (fun c C E g h tg => ?_) (fun c C E g h => ff rfl h) fun c => ⟨rfl, rfl, rfl, rfl, rfl, rfl, rfl, rfl, rfl, rfl, rfl, rfl, rfl⟩
  obtain ⟨h1, h2, h3⟩ := and3 h
  have ha := iha.a c C E g h2
  rcases (Bool.or_eq_true _ _).mp h3 with h3 | q
  rotate_left
  · obtain ⟨x, y, z, rfl⟩ := args3_ex q
    exact iRg3 (g.glb h1).1 (g.bn _ (by simp [bnames])) ha fun e s xs s' hq => a_len w.gl F _ rfl e s xs s' hq
  rcases (Bool.or_eq_true _ _).mp h3 with q | q
  · obtain ⟨x, rfl⟩ := args1_ex q
    exact iRg1 (g.glb h1).1 (g.bn _ (by simp [bnames])) ha fun e s xs s' hq => a_len w.gl F _ rfl e s xs s' hq
  · obtain ⟨x, y, rfl⟩ := args2_ex q
    exact iRg2 (g.glb h1).1 (g.bn _ (by simp [bnames])) ha fun e s xs s' hq => a_len w.gl F _ rfl e s xs s' hq
theorem ok_en {a : T} (p0 p : Pos) (iha : Ok cl w F a) : Ok cl w F (.en a p0 p) := by
  refine ok_it (fun c C E g h tg => ff rfl h) (fun c C E g h elts kk tpos => ?_) fun c => ⟨rfl, rfl, rfl, rfl, rfl, rfl, rfl, rfl, rfl, rfl, rfl, rfl, rfl⟩
  obtain ⟨h1, h2, h3⟩ := and3 h
  have ha := iha.a c C E g h2
  obtain ⟨x, rfl⟩ := args1_ex h3
  exact iEnu (g.glb h1).1 (g.bn _ (by simp [bnames])) ha
theorem ok_zp {a : T} (p0 p : Pos) (iha : Ok cl w F a) : Ok cl w F (.zp a p0 p) := by
  refine ok_it (fun c C E g h tg => ff rfl h) (fun c C E g h elts kk tpos => ?_) fun c => ⟨rfl, rfl, rfl, rfl, rfl, rfl, rfl, rfl, rfl, rfl, rfl, rfl, rfl⟩
  obtain ⟨h1, h2, h3⟩ := and3 h
  have ha := iha.a c C E g h2
  obtain ⟨x, y, rfl⟩ := args2_ex h3
  exact iZip (g.glb h1).1 (g.bn _ (by simp [bnames])) ha
theorem ok_ez {a : T} (p0 p1 p2 p : Pos) (iha : Ok cl w F a) : Ok cl w F (.ez a p0 p1 p2 p) := by
  refine ok_it (fun c C E g h tg => ff rfl h) (fun c C E g h elts kk tpos => ?_) fun c => ⟨rfl, rfl, rfl, rfl, rfl, rfl, rfl, rfl, rfl, rfl, rfl, rfl, rfl⟩
  obtain ⟨h1, h2, h3, h4⟩ := and4 h
  have ha := iha.a c C E g h3
  obtain ⟨x, y, rfl⟩ := args2_ex h4
  exact iEnz (g.glb h1).1 (g.bn _ (by simp [bnames])) (g.glb h2).1 (g.bn _ (by simp [bnames])) ha
theorem ok_itm {o : T} (p0 p : Pos) (iho : Ok cl w F o) : Ok cl w F (.itm o p0 p) := by
  refine ok_it (fun c C E g h tg => ff rfl h) (fun c C E g h elts kk tpos => ?_) fun c => ⟨rfl, rfl, rfl, rfl, rfl, rfl, rfl, rfl, rfl, rfl, rfl, rfl, rfl⟩
  obtain ⟨h1, h2, h3⟩ := and3 h
  exact iItm (base_at h3) h2 (iho.e c C E g h1)
theorem ok_dwk {o : T} (iho : Ok cl w F o) : Ok cl w F (.dwk o) := by
  refine ok_it (fun c C E g h tg => iDwk (iho.e c C E g h)) (fun c C E g h elts kk tpos => ff rfl h) fun c => ⟨rfl, rfl, rfl, rfl, rfl, rfl, rfl, rfl, rfl, rfl, rfl, rfl, rfl⟩
/-! lists of trees -/
theorem ok_nil : Ok cl w F .nil where
  e := fun c C E g h => ff rfl h
  t := fun c C E g h => ff rfl h
  a := fun c C E g h => aNil
  i := fun c C E g h => ff rfl h
  iT := fun c C E g h => ff rfl h
  s := fun c C E g _ h => ff rfl h
  ss := fun c C E g _ h => sNil
  k := fun c C E g h => ff rfl h
  ks := fun c C E g h => gsNil
  b := fun c C E g h => ff rfl h
  bt := fun c C E g h => ff rfl h
  g := fun c C E g h => ff rfl h
  gs := fun c C E g h => L2.pgs_nil
  o := fun c C E g h => oNone fun _ _ => rfl
  q := fun c C E g h => ⟨fun pins s σ H Q I ⟨O, ρ, e, st, R, q⟩ => L2.pts_nil.run pins s σ H Q I (q.at R.S rfl)⟩
theorem isNil_eq {b : T} (h : isNil b = true) : b = .nil := by cases b <;> first | rfl | cases h
theorem bNil (gl : List P) (F : Nat → List Vl → Sr → R Vl) (a : T) : (sem gl F (.cons a .nil)).bo = fun _ e s => (sem gl F a).e e s := by
  funext k e s
  rfl
/-- more than one -/
def more : T → Bool
  | .cons _ _ => true
  | _ => false
theorem bCons (gl : List P) (F : Nat → List Vl → Sr → R Vl) (a x y : T) : (sem gl F (.cons a (.cons x y))).bo = fun k e s => orP ((sem gl F a).e e s) (fun s => (sem gl F (.cons x y)).bo k e s) k := by
  funext k e s
  rfl
theorem b_more {b : T} {c : Ct} (h : (wf w b c).b = true) : ∃ x y, b = .cons x y := by
  cases b <;> first | exact ⟨_, _, rfl⟩ | cases h
theorem bt_more {b : T} {c : Ct} (h : (wf w b c).bt = true) : ∃ x y, b = .cons x y := by
  cases b <;> first | exact ⟨_, _, rfl⟩ | cases h
theorem ok_cons {a b : T} (iha : Ok cl w F a) (ihb : Ok cl w F b) : Ok cl w F (.cons a b) where
  e := fun c C E g h => ff rfl h
  t := fun c C E g h => ff rfl h
  a := fun c C E g h => aCns (iha.e c C E g (and1 h).1) (ihb.a c C E g (and1 h).2) (star_cons _ _ _)
  i := fun c C E g h => ff rfl h
  iT := fun c C E g h => ff rfl h
  s := fun c C E g _ h => ff rfl h
  ss := fun c C E g hp h => sCons (iha.s c C E g hp (and1 h).1) (ihb.ss c C E g hp (and1 h).2)
  k := fun c C E g h => ff rfl h
  ks := fun c C E g h => gsCons (iha.k c C E g (and1 h).1) (ihb.ks c C E g (and1 h).2) (by rw [asgCons]; rfl)
  b := fun c C E g h op pos => by
    obtain ⟨h1, h2⟩ := and1 h
    rcases (Bool.or_eq_true _ _).mp h2 with q | q
    · cases isNil_eq q
      rw [bNil]
      exact xOne (iha.e c C E g h1)
    · obtain ⟨x, y, rfl⟩ := b_more q
      rw [bCons]
      cases op with
      | Or => exact xOr (iha.e c C E g h1) (ihb.b c C E g q .Or pos)
      | And => exact xAnd (iha.e c C E g h1) (ihb.b c C E g q .And pos)
  bt := fun c C E g h op pos => by
    obtain ⟨h1, h2⟩ := and1 h
    rcases (Bool.or_eq_true _ _).mp h2 with q | q
    · cases isNil_eq q
      rw [bNil]
      exact wOne (iha.t c C E g h1)
    · obtain ⟨x, y, rfl⟩ := bt_more q
      rw [bCons]
      cases op with
      | Or => exact wOr (iha.t c C E g h1) (ihb.bt c C E g q .Or pos)
      | And => exact wAnd (iha.t c C E g h1) (ihb.bt c C E g q .And pos)
  g := fun c C E g h => ff rfl h
  gs := fun c C E g h => L2.pgs_cons (iha.g c C E g (and1 h).1) (ihb.gs c C E g (and1 h).2) (by rw [asgCons]; rfl)
  o := fun c C E g h => ff rfl h
  q := fun c C E g h => by
    obtain ⟨h1, h2⟩ := and1 h
    cases isNil_eq h2
    exact ⟨fun pins s σ H Q I q => (L2.pts_one (iha.t c C E g h1)).run pins s σ H Q I q⟩
theorem ok_star {a b : T} (p : Pos) (iha : Ok cl w F a) (ihb : Ok cl w F b) : Ok cl w F (.star a b p) where
  e := fun c C E g h => ff rfl h
  t := fun c C E g h => ff rfl h
  a := fun c C E g h => aStr (iha.e c C E g (and1 h).1) (ihb.a c C E g (and1 h).2)
  i := fun c C E g h => ff rfl h
  iT := fun c C E g h => ff rfl h
  s := fun c C E g _ h => ff rfl h
  ss := fun c C E g _ h => ff rfl h
  k := fun c C E g h => ff rfl h
  ks := fun c C E g h => ff rfl h
  b := fun c C E g h => ff rfl h
  bt := fun c C E g h => ff rfl h
  g := fun c C E g h => ff rfl h
  gs := fun c C E g h => ff rfl h
  o := fun c C E g h => ff rfl h
  q := fun c C E g h => ff rfl h
/-! statements -/
theorem asg1 (t : T) (env : Env) : (assignEach [toE t] env).map (·.2) = [assign (toE t) env] := by rw [asgCons]; rfl
theorem ok_as {t x : T} (p : Pos) (iht : Ok cl w F t) (ihx : Ok cl w F x) (hcp : ∀ m elt tg it cond sc own p', x = .cp m elt tg it cond sc own p' → Ok cl w F elt ∧ Ok cl w F tg ∧ Ok cl w F it ∧ Ok cl w F cond) : Ok cl w F (.as t x p) := by
  refine .ofS fun c C E g hp h => ?_
  obtain ⟨h1, h2⟩ := and1 h
  by_cases hc : (isCp0 x && isVar t) = true
  · rw [if_pos hc] at h2
    obtain ⟨c1, c2⟩ := and1 hc
    cases t with
    | v i y py =>
      by_cases hs : swapB c (.v i y py) x = true
      · cases x with
        | cp m elt tg it cond sc own p' =>
          obtain ⟨o1, o2, o3, o4⟩ := hcp m elt tg it cond sc own p' rfl
          obtain ⟨q1, q2, q3, q4, q5, q6⟩ := cp_parts g h1 o1 o2 o3 o4
          obtain ⟨l1, l2, l3, l4⟩ := g.loc h2
          have hs' : (c.sc.names.lookup y == some .local && py.line == p'.line && !(sc.names.any fun (n, k) => n == y && (k == .local || k == .cell))) = true := hs
          obtain ⟨s1, s2, s3⟩ := and3 hs'
          have hl : C.env.scope.names.lookup y = some .local := by rw [g.sc]; exact beq_iff_eq.mp s1
          refine sLc (m := m) g.calm l1 l2 hl ?_ q1 q2 q3 q4 q5 q6 (foldNo it C.env)
          exact L2.sw_true (by rw [g.sc]; exact g.kd) hl s2 (by simpa using s3)
        | _ => cases hs
      · have hsw : swapsWith (toE x) (some (.Name y py)) p.line C.env = pure false := by
          have key : ∀ x : T, isCp0 x = true → swapB c (.v i y py) x ≠ true → swapsWith (toE x) (some (.Name y py)) p.line C.env = pure false := by
            intro x
            cases x with
            | cp m elt tg it cond sc own p' =>
              intro _ hb
              have hb' : ¬ (c.sc.names.lookup y == some .local && py.line == p'.line && !(sc.names.any fun (n, k) => n == y && (k == .local || k == .cell))) = true := hb
              have bk : (C.env.blockKind == .function) = true := by unfold Env.blockKind; rw [g.sc, g.kd]; rfl
              have kk : C.env.kindOf y = c.sc.names.lookup y := by show C.env.scope.names.lookup y = _; rw [g.sc]
              show (pure (C.env.blockKind == .function && C.env.kindOf y == some .local && py.line == p'.line && !(sc.names.any fun (n, k) => n == y && (k == .local || k == .cell))) : Sem Bool) = pure false
              rw [bk, kk, Bool.true_and]
              rw [Bool.not_eq_true] at hb'
              rw [hb']
            | _ => intro h; cases h
          exact key x c1 hs
        exact sAsg (ihx.e c C E g h1) (iht.k c C E g h2) hsw (by cases x <;> first | rfl | cases c1) (asg1 _ _) fun v e s e' s' => ⟨(only_k w.gl F (.v i y py)).1 v e s |>.1 e' s' |>.1, (only_k w.gl F (.v i y py)).1 v e s |>.1 e' s' |>.2, fun ww => (only_k w.gl F (.v i y py)).1 v e s |>.2 ww s'⟩
    | _ => cases c2
  · rw [if_neg hc] at h2
    obtain ⟨k1, k2, k3⟩ := and3 h2
    have k2' : isCp x = false := by simpa using k2
    exact sAsg (ihx.e c C E g h1) (iht.k c C E g k1) (swFalse x k2' _ _ _) (swSts t x k3 _) (asg1 _ _) fun v e s e' s' => ⟨(only_k w.gl F t).1 v e s |>.1 e' s' |>.1, (only_k w.gl F t).1 v e s |>.1 e' s' |>.2, fun ww => (only_k w.gl F t).1 v e s |>.2 ww s'⟩
theorem vars2_ex {c : Ct} {t : T} (h : vars2 c t = true) : ∃ i x px j y py, t = .cons (.v i x px) (.cons (.v j y py) .nil) ∧ c.N[i]? = some x ∧ c.N[j]? = some y ∧ i ≠ j ∧ c.sc.names.lookup x = some .local ∧ c.sc.names.lookup y = some .local := by
  unfold vars2 at h
  split at h
  · simp only [Bool.and_eq_true, decide_eq_true_eq, beq_iff_eq] at h
    obtain ⟨⟨⟨⟨e1, e2⟩, e3⟩, e4⟩, e5⟩ := h
    exact ⟨_, _, _, _, _, _, rfl, e1, e2, e3, e4, e5⟩
  · cases h
theorem vars3_ex {c : Ct} {t : T} (h : vars3 c t = true) : ∃ i x px j y py l z pz, t = .cons (.v i x px) (.cons (.v j y py) (.cons (.v l z pz) .nil)) ∧ c.N[i]? = some x ∧ c.N[j]? = some y ∧ c.N[l]? = some z ∧ i ≠ j ∧ i ≠ l ∧ j ≠ l ∧ c.sc.names.lookup x = some .local ∧ c.sc.names.lookup y = some .local ∧ c.sc.names.lookup z = some .local := by
  unfold vars3 at h
  split at h
  · simp only [Bool.and_eq_true, decide_eq_true_eq, beq_iff_eq] at h
    obtain ⟨⟨⟨⟨⟨⟨⟨⟨e1, e2⟩, e3⟩, e4⟩, e5⟩, e6⟩, e7⟩, e8⟩, e9⟩ := h
    exact ⟨_, _, _, _, _, _, _, _, _, rfl, e1, e2, e3, e4, e5, e6, e7, e8, e9⟩
  · cases h
theorem len_fm {α β : Type} (f : α → Option β) : ∀ (l : List α), (l.filterMap f).length = l.length → ∀ a ∈ l, (f a).isSome = true
  | [], _, a, h => by cases h
  | x :: l, e, a, h => by
    have le := List.length_filterMap_le f l
    rw [List.filterMap_cons] at e
    cases q : f x with
    | none => rw [q] at e; simp at e; omega
    | some b =>
      rw [q] at e
      rcases List.mem_cons.mp h with rfl | h
      · rw [q]; rfl
      · exact len_fm f l (by simpa using e) a h
theorem swSome_len {sc : Scope} {ts vs : List Expr} (h : swSome sc ts vs = true) : (swNames sc ts).length = ts.length := by
  unfold swSome at h
  simp only [Bool.and_eq_true, Bool.not_eq_true', Bool.or_eq_false_iff, bne_eq_false_iff_eq] at h
  exact h.1.1.2.1
theorem sw_nm2 {sc : Scope} {x y : Str} {px py : Pos} (h : (swNames sc [.Name x px, .Name y py]).length = 2) : swNames sc [.Name x px, .Name y py] = [x, y] := by
  have h1 := len_fm _ _ h (.Name x px) (by simp)
  have h2 := len_fm _ _ h (.Name y py) (by simp)
  dsimp only at h1 h2
  unfold swNames
  split at h1
  · rename_i c1
    split at h2
    · rename_i c2
      rw [List.filterMap_cons, List.filterMap_cons]
      simp only [if_pos c1, if_pos c2]
      rfl
    · cases h2
  · cases h1
theorem sw_nm3 {sc : Scope} {x y z : Str} {px py pz : Pos} (h : (swNames sc [.Name x px, .Name y py, .Name z pz]).length = 3) : swNames sc [.Name x px, .Name y py, .Name z pz] = [x, y, z] := by
  have h1 := len_fm _ _ h (.Name x px) (by simp)
  have h2 := len_fm _ _ h (.Name y py) (by simp)
  have h3 := len_fm _ _ h (.Name z pz) (by simp)
  dsimp only at h1 h2 h3
  unfold swNames
  split at h1
  · rename_i c1
    split at h2
    · rename_i c2
      split at h3
      · rename_i c3
        rw [List.filterMap_cons, List.filterMap_cons, List.filterMap_cons]
        simp only [if_pos c1, if_pos c2, if_pos c3]
        rfl
      · cases h3
    · cases h2
  · cases h1
theorem cnt3_ex {t : T} (h : cnt t = 3) (hn : ns t = true) : ∃ x y z, t = .cons x (.cons y (.cons z .nil)) := by
  cases t with
  | cons x r =>
    cases r with
    | cons y r =>
      cases r with
      | cons z r =>
        cases r with
        | nil => exact ⟨x, y, z, rfl⟩
        | cons a b => simp [cnt] at h
        | _ => cases hn
      | nil => simp [cnt] at h
      | _ => cases hn
    | nil => simp [cnt] at h
    | _ => cases hn
  | nil => simp [cnt] at h
  | _ => cases hn
theorem ok_pa {ts es : T} (k1 k2 : Nat) (p1 p2 p : Pos) (iht : Ok cl w F ts) (ihe : Ok cl w F es) : Ok cl w F (.pa ts es k1 k2 p1 p2 p) := by
  refine .ofS fun c C E g hp h => ?_
  obtain ⟨h1, h2⟩ := and1 h
  have kd : C.env.scope.kind = .function := by rw [g.sc]; exact g.kd
  have ha := ihe.a c C E g h1
  have N : C.N.Nodup := by rw [g.N]; exact g.nd
  rcases (Bool.or_eq_true _ _).mp h2 with q | q
  · obtain ⟨q12345, q6⟩ := and1 q
    obtain ⟨q1234, q5⟩ := and1 q12345
    obtain ⟨q1, q2, q3, q4⟩ := and4 q1234
    obtain ⟨n1, n2⟩ := asgEs C.env ts q3
    have e := of_decide_eq_true q5
    exact sPaG g.calm ha (iht.ks c C E g q2) n1 n2 (sw_none kd (by rw [g.sc]; exact q1)) (fun e' s xs s' hq => by rw [a_len w.gl F es q4 e' s xs s' hq, e]) (of_decide_eq_true q6) fun vs e s => (only_k w.gl F ts).2 vs e s
  · obtain ⟨q1, q2⟩ := and1 q
    have q1' : swSome C.env.scope (toEs ts) (toEs es) = true := by rw [g.sc]; exact q1
    have sw := sw_some (env := C.env) (k := k1) (k2 := k2) (p := p1) (p2 := p2) kd q1'
    have ln := swSome_len q1'
    rcases (Bool.or_eq_true _ _).mp q2 with q | q
    · obtain ⟨r1, r2⟩ := and1 q
      obtain ⟨x, y, rfl⟩ := args2_ex r2
      obtain ⟨i, n1, px, j, n2, py, rfl, e1, e2, e3, e4, e5⟩ := vars2_ex r1
      rw [show swNames C.env.scope (toEs (.cons (.v i n1 px) (.cons (.v j n2 py) .nil))) = [n1, n2] from sw_nm2 ln] at sw
      exact sPar2 g.calm N (by rw [g.N]; exact e1) (by rw [g.N]; exact e2) e3 (by rw [g.sc]; exact e4) (by rw [g.sc]; exact e5) ha sw
    · obtain ⟨r1, r2, r3⟩ := and3 q
      obtain ⟨x, y, z, rfl⟩ := cnt3_ex (of_decide_eq_true r2) r3
      obtain ⟨i, n1, px, j, n2, py, l, n3, pz, rfl, e1, e2, e3, e4, e5, e6, e7, e8, e9⟩ := vars3_ex r1
      rw [show swNames C.env.scope (toEs (.cons (.v i n1 px) (.cons (.v j n2 py) (.cons (.v l n3 pz) .nil)))) = [n1, n2, n3] from sw_nm3 ln] at sw
      exact sPar3 g.calm N (by rw [g.N]; exact e1) (by rw [g.N]; exact e2) (by rw [g.N]; exact e3) e4 e5 e6 (by rw [g.sc]; exact e7) (by rw [g.sc]; exact e8) (by rw [g.sc]; exact e9) ha sw
theorem ok_ag {t x : T} (o : Operator) (p : Pos) (ihx : Ok cl w F x) : Ok cl w F (.ag t o x p) := by
  refine .ofS fun c C E g hp h => ?_
  obtain ⟨h1, h2, h3⟩ := and3 h
  cases t with
  | v i y py =>
    obtain ⟨l1, l2, l3, l4⟩ := g.loc h2
    exact sAug l1 l2 l3 l4 (ihx.e c C E g h1)
  | _ => cases h3
theorem ok_agI {a b x : T} (o : Operator) (q p : Pos) (iha : Ok cl w F a) (ihb : Ok cl w F b) (ihx : Ok cl w F x) : Ok cl w F (.agI a b o x q p) :=
  .ofS fun c C E g hp h => sAgIx (iha.e c C E g (and3 h).1) (ihb.e c C E g (and3 h).2.1) (ihx.e c C E g (and3 h).2.2) (augIx b)
theorem ok_iff {d a b : T} (p : Pos) (ihd : Ok cl w F d) (iha : Ok cl w F a) (ihb : Ok cl w F b) : Ok cl w F (.iff d a b p) :=
  .ofS fun c C E g hp h => sIfS (ihd.t c C E g (and3 h).1) (iha.ss c C E g hp (and3 h).2.1) (ihb.ss c C E g hp (and3 h).2.2)
theorem ok_wh {d b : T} (p : Pos) (ihd : Ok cl w F d) (ihb : Ok cl w F b) : Ok cl w F (.wh d b p) :=
  .ofS fun c C E g hp h => sWhile hp (ihd.t c C E g (and1 h).1) (ihb.ss c C E g hp (and1 h).2)
theorem ok_fo {t it b : T} (p : Pos) (iht : Ok cl w F t) (ihi : Ok cl w F it) (ihb : Ok cl w F b) : Ok cl w F (.fo t it b p) := by
  refine .ofS fun c C E g hp h => ?_
  obtain ⟨h1, h2, h3⟩ := and3 h
  have hi : PI C (toE t) (toE it) (TrI C.K (WE cl E) (sem w.gl F it).i) := by
    rcases (Bool.or_eq_true _ _).mp h1 with q | q
    · exact ihi.i c C E g q _
    · obtain ⟨q1, q2⟩ := and1 q
      cases t with
      | tup a k p => exact ihi.iT c C E g q2 _ _ _
      | _ => cases q1
  exact sFor (T0 := .nil) hp g.calm hi (iht.k c C E g h2) (ihb.ss c C E g hp h3) (foldNo it C.env)
theorem ok_re {x : T} (p : Pos) (ihx : Ok cl w F x) : Ok cl w F (.re x p) := .ofS fun c C E g hp h => sRet (ihx.e c C E g h)
theorem ok_exs {x : T} (p : Pos) (ihx : Ok cl w F x) : Ok cl w F (.exs x p) := .ofS fun c C E g hp h => sExp (ihx.e c C E g (and1 h).1) (swFalse x (by simpa using (and1 h).2) _ _ _)
theorem ok_xs (q : Stmt) : Ok cl w F (.xs q) := .ofS fun c C E g hp h => imS L2.ps_never fun D σ H ⟨O, ρ, e, st, R, q⟩ => q.elim
theorem ok_ra (p : Pos) (x : Expr) : Ok cl w F (.ra p x) := .ofS fun c C E g hp h => imS L2.ps_never fun D σ H ⟨O, ρ, e, st, R, q⟩ => q.elim
theorem ok_dst {a b x : T} (q p : Pos) (iha : Ok cl w F a) (ihb : Ok cl w F b) (ihx : Ok cl w F x) : Ok cl w F (.dst a b x q p) :=
  .ofS fun c C E g hp h => by
    obtain ⟨h1, h2, h3, h4⟩ := and4 h
    exact sDstS g.un (iha.e c C E g h2) (ihb.e c C E g h3) (ihx.e c C E g h1) (swFalse x (by simpa using h4) _ _ _)
theorem ok_dag {a b x : T} (o : Operator) (q p : Pos) (iha : Ok cl w F a) (ihb : Ok cl w F b) (ihx : Ok cl w F x) : Ok cl w F (.dag a b o x q p) :=
  .ofS fun c C E g hp h => sDagS g.un (iha.e c C E g (and3 h).1) (ihb.e c C E g (and3 h).2.1) (ihx.e c C E g (and3 h).2.2) (augIx b)
theorem ok_das {d : T} (i : Nat) (x : Str) (px p : Pos) (ihd : ∀ kx vx tg it cond sc own p', d = .dcp kx vx tg it cond sc own p' → Ok cl w F kx ∧ Ok cl w F vx ∧ Ok cl w F tg ∧ Ok cl w F it ∧ Ok cl w F cond) : Ok cl w F (.das i x px d p) :=
  .ofS fun c C E g hp h => by
    obtain ⟨h1, h2, h3⟩ := and3 h
    cases d with
    | dcp kx vx tg it cond sc own p' =>
      obtain ⟨o0, o1, o2, o3, o4⟩ := ihd kx vx tg it cond sc own p' rfl
      obtain ⟨h0, hk⟩ := and1 h1
      obtain ⟨q1, q2, q3, q4, q5, q6⟩ := cp_parts g h0 o1 o2 o3 o4
      obtain ⟨l1, l2, l3, l4⟩ := g.loc h2
      by_cases hs' : (c.sc.names.lookup x == some .local && px.line == p'.line && !(sc.names.any fun (n, k) => n == x && (k == .local || k == .cell))) = true
      · obtain ⟨s1, s2, s3⟩ := and3 hs'
        have hl : C.env.scope.names.lookup x = some .local := by rw [g.sc]; exact beq_iff_eq.mp s1
        exact sDc g.calm l1 l2 hl (dc_sw (by rw [g.sc]; exact g.kd) hl s2 (by simpa using s3)) q1 q2 q3 q4 q5 (fun s H Cc cs fp => o0.e _ _ _ (g.blk q2.kind s H Cc cs fp) hk) q6 (foldNo it C.env)
      · have hsw : swapsWith (toE (.dcp kx vx tg it cond sc own p')) (some (.Name x px)) p.line C.env = pure false := by
          have bk : (C.env.blockKind == .function) = true := by unfold Env.blockKind; rw [g.sc, g.kd]; rfl
          have kk : C.env.kindOf x = c.sc.names.lookup x := by show C.env.scope.names.lookup x = _; rw [g.sc]
          show (pure (C.env.blockKind == .function && C.env.kindOf x == some .local && px.line == p'.line && !(sc.names.any fun (n, k) => n == x && (k == .local || k == .cell))) : Sem Bool) = pure false
          rw [bk, kk, Bool.true_and]
          rw [Bool.not_eq_true] at hs'
          rw [hs']
        have oe := (ok_dcp (cl := cl) (w := w) (F := F) sc own p' o0 o1 o2 o3 o4).e c C E g h1
        exact sAsg oe ((ok_v (cl := cl) (w := w) (F := F) i x px).k c C E g h2) hsw rfl (asg1 (.v i x px) _) fun v e s e' s' => ⟨(only_k w.gl F (.v i x px)).1 v e s |>.1 e' s' |>.1, (only_k w.gl F (.v i x px)).1 v e s |>.1 e' s' |>.2, fun ww => (only_k w.gl F (.v i x px)).1 v e s |>.2 ww s'⟩
    | _ => cases h3
/-- ALL TREES -/
theorem ok (t : T) : Ok cl w F t := by
  have all : Ok cl w F t ∧ (∀ m elt tg it cond sc own p', t = .cp m elt tg it cond sc own p' → Ok cl w F elt ∧ Ok cl w F tg ∧ Ok cl w F it ∧ Ok cl w F cond) ∧ ∀ kx vx tg it cond sc own p', t = .dcp kx vx tg it cond sc own p' → Ok cl w F kx ∧ Ok cl w F vx ∧ Ok cl w F tg ∧ Ok cl w F it ∧ Ok cl w F cond := by
    induction t with
    | c x k p => exact ⟨ok_c x k p, by intros; contradiction, by intros; contradiction⟩
    | v i x p => exact ⟨ok_v i x p, by intros; contradiction, by intros; contradiction⟩
    | g i x p => exact ⟨ok_g i x p, by intros; contradiction, by intros; contradiction⟩
    | tup a k p iha => exact ⟨ok_tup k p iha.1, by intros; contradiction, by intros; contradiction⟩
    | lst m a p iha => exact ⟨ok_lst m p iha.1, by intros; contradiction, by intros; contradiction⟩
    | ix a b p iha ihb => exact ⟨ok_ix p iha.1 ihb.1, by intros; contradiction, by intros; contradiction⟩
    | sl a lo hi p p2 iha ihl ihh => exact ⟨ok_sl p p2 iha.1 ihl.1 ihh.1, by intros; contradiction, by intros; contradiction⟩
    | rv a k p p1 p2 p3 iha => exact ⟨ok_rv k p p1 p2 p3 iha.1, by intros; contradiction, by intros; contradiction⟩
    | bin a o b p iha ihb => exact ⟨ok_bin o p iha.1 ihb.1, by intros; contradiction, by intros; contradiction⟩
    | neg a p iha => exact ⟨ok_neg p iha.1, by intros; contradiction, by intros; contradiction⟩
    | nt a p iha => exact ⟨ok_nt p iha.1, by intros; contradiction, by intros; contradiction⟩
    | cmp a o b p iha ihb => exact ⟨ok_cmp o p iha.1 ihb.1, by intros; contradiction, by intros; contradiction⟩
    | cm2 a o b q d p iha ihb ihd => exact ⟨ok_cm2 o q p iha.1 ihb.1 ihd.1, by intros; contradiction, by intros; contradiction⟩
    | bo o a p iha => exact ⟨ok_bo o p iha.1, by intros; contradiction, by intros; contradiction⟩
    | ite d a b p ihd iha ihb => exact ⟨ok_ite p ihd.1 iha.1 ihb.1, by intros; contradiction, by intros; contradiction⟩
    | bi f x a p0 p iha => exact ⟨ok_bi f x p0 p iha.1, by intros; contradiction, by intros; contradiction⟩
    | isi a ty p0 p1 p iha => exact ⟨ok_isi ty p0 p1 p iha.1, by intros; contradiction, by intros; contradiction⟩
    | cal f m x a p0 p iha => exact ⟨ok_cal f m x p0 p iha.1, by intros; contradiction, by intros; contradiction⟩
    | lzp a p0 p1 p2 p iha => exact ⟨ok_lzp p0 p1 p2 p iha.1, by intros; contradiction, by intros; contradiction⟩
    | lsm a p0 p iha => exact ⟨ok_lsm p0 p iha.1, by intros; contradiction, by intros; contradiction⟩
    | rpm a b p iha ihb => exact ⟨ok_rpm p iha.1 ihb.1, by intros; contradiction, by intros; contradiction⟩
    | lrg x a p0 p1 p2 p iha => exact ⟨ok_lrg x p0 p1 p2 p iha.1, by intros; contradiction, by intros; contradiction⟩
    | cp m elt tg it cond sc own p ihe iht ihi ihc => exact ⟨ok_cp m sc own p ihe.1 iht.1 ihi.1 ihc.1, by intro m' elt' tg' it' cond' sc' own' p' q; cases q; exact ⟨ihe.1, iht.1, ihi.1, ihc.1⟩, by intros; contradiction⟩
    | app o x p0 p iho ihx => exact ⟨ok_app p0 p iho.1 ihx.1, by intros; contradiction, by intros; contradiction⟩
    | met f o a p0 p iho iha => exact ⟨ok_met f p0 p iho.1 iha.1, by intros; contradiction, by intros; contradiction⟩
    | sb b a p0 p1 p2 p iha => exact ⟨ok_sb b p0 p1 p2 p iha.1, by intros; contradiction, by intros; contradiction⟩
    | dct0 p => exact ⟨ok_dct0 p, by intros; contradiction, by intros; contradiction⟩
    | dct1 a b p iha ihb => exact ⟨ok_dct1 p iha.1 ihb.1, by intros; contradiction, by intros; contradiction⟩
    | dcp kx vx tg it cond sc own p ihk ihe iht ihi ihc => exact ⟨ok_dcp sc own p ihk.1 ihe.1 iht.1 ihi.1 ihc.1, by intros; contradiction, by intro kx' vx' tg' it' cond' sc' own' p' q; cases q; exact ⟨ihk.1, ihe.1, iht.1, ihi.1, ihc.1⟩⟩
    | dix a b p iha ihb => exact ⟨ok_dix p iha.1 ihb.1, by intros; contradiction, by intros; contradiction⟩
    | din n a b p iha ihb => exact ⟨ok_din n p iha.1 ihb.1, by intros; contradiction, by intros; contradiction⟩
    | dme f o a p0 p iho iha => exact ⟨ok_dme f p0 p iho.1 iha.1, by intros; contradiction, by intros; contradiction⟩
    | itm o p0 p iho => exact ⟨ok_itm p0 p iho.1, by intros; contradiction, by intros; contradiction⟩
    | dwk o iho => exact ⟨ok_dwk iho.1, by intros; contradiction, by intros; contradiction⟩
    | das i x px d p ihd => exact ⟨ok_das i x px p ihd.2.2, by intros; contradiction, by intros; contradiction⟩
    | dst a b x q p iha ihb ihx => exact ⟨ok_dst q p iha.1 ihb.1 ihx.1, by intros; contradiction, by intros; contradiction⟩
    | dag a b o x q p iha ihb ihx => exact ⟨ok_dag o q p iha.1 ihb.1 ihx.1, by intros; contradiction, by intros; contradiction⟩
    | pl x ih => exact ⟨ok_pl ih.1, by intros; contradiction, by intros; contradiction⟩
    | rg a p0 p iha => exact ⟨ok_rg p0 p iha.1, by intros; contradiction, by intros; contradiction⟩
    | en a p0 p iha => exact ⟨ok_en p0 p iha.1, by intros; contradiction, by intros; contradiction⟩
    | zp a p0 p iha => exact ⟨ok_zp p0 p iha.1, by intros; contradiction, by intros; contradiction⟩
    | ez a p0 p1 p2 p iha => exact ⟨ok_ez p0 p1 p2 p iha.1, by intros; contradiction, by intros; contradiction⟩
    | nil => exact ⟨ok_nil, by intros; contradiction, by intros; contradiction⟩
    | cons a b iha ihb => exact ⟨ok_cons iha.1 ihb.1, by intros; contradiction, by intros; contradiction⟩
    | star a b p iha ihb => exact ⟨ok_star p iha.1 ihb.1, by intros; contradiction, by intros; contradiction⟩
    | «as» t x p iht ihx => exact ⟨ok_as p iht.1 ihx.1 ihx.2.1, by intros; contradiction, by intros; contradiction⟩
    | pa ts es k1 k2 p1 p2 p iht ihe => exact ⟨ok_pa k1 k2 p1 p2 p iht.1 ihe.1, by intros; contradiction, by intros; contradiction⟩
    | ag t o x p iht ihx => exact ⟨ok_ag o p ihx.1, by intros; contradiction, by intros; contradiction⟩
    | agI a b o x q p iha ihb ihx => exact ⟨ok_agI o q p iha.1 ihb.1 ihx.1, by intros; contradiction, by intros; contradiction⟩
    | iff d a b p ihd iha ihb => exact ⟨ok_iff p ihd.1 iha.1 ihb.1, by intros; contradiction, by intros; contradiction⟩
    | wh d b p ihd ihb => exact ⟨ok_wh p ihd.1 ihb.1, by intros; contradiction, by intros; contradiction⟩
    | fo t it b p iht ihi ihb => exact ⟨ok_fo p iht.1 ihi.1 ihb.1, by intros; contradiction, by intros; contradiction⟩
    | re x p ihx => exact ⟨ok_re p ihx.1, by intros; contradiction, by intros; contradiction⟩
    | exs x p ihx => exact ⟨ok_exs p ihx.1, by intros; contradiction, by intros; contradiction⟩
    | bk p => exact ⟨.ofS fun c C E g hp h => sBreak, by intros; contradiction, by intros; contradiction⟩
    | ct p => exact ⟨.ofS fun c C E g hp h => sCont, by intros; contradiction, by intros; contradiction⟩
    | ps p => exact ⟨.ofS fun c C E g hp h => sPass, by intros; contradiction, by intros; contradiction⟩
    | ra p x => exact ⟨ok_ra p x, by intros; contradiction, by intros; contradiction⟩
    | xs q => exact ⟨ok_xs q, by intros; contradiction, by intros; contradiction⟩
  exact all.1
end
end Mi
end
section
set_option Elab.async false
set_option linter.all false
set_option maxRecDepth 100000
set_option maxHeartbeats 2000000
/-! M22: the law's defs, level by level; the law's end. -/
namespace Mi
open PySem PySem.Spec PyProof.Rows
open L2 (V HO Hp upd upd_same upd_ne SqL SqT Rd Cx Inv PE PT PA PS PSs PG PGs PI TE TT TA TS TG TGs TI It VK XK Ends RelV Vals ne_of_none OpR R2 EP CallR UnR IxR SlR TruR Gl Vis Loc Itl Itt Itr wipe Room Env0 CR CE CXT HOk hidT)
/-- a def of the law as it stands behind the top -/
structure DfOk (w : Wd) (K : Fg) (mg : Str → Option Value) (d : Df) (x : Str) : Prop where
  ex : ∃ (f : Addr) (name qual : Str) (params : Arguments) (scope : Scope) (dV kV doc pm cdv ct oc : Value) (an od : Option Addr) (osl : Array (Option Value)) (N ps : List Str),
    mg x = some (.ref f) ∧ PySem.W.keepIn K (.ref f) = true ∧ K.lookup f = some ⟨oc, od, .func (PySem.W.fnOf name qual params (toSs d.b) scope dV kV doc pm an cdv ct), osl⟩ ∧ PySem.W.codeIn K cdv qual = true ∧ L2.FnScope N ps scope ∧
      N.length = d.m ∧ ps.length = d.n ∧ (wf w d.b ⟨N, scope, fun _ => true⟩).ss = true ∧ L2.Binds K (PySem.W.fnOf name qual params (toSs d.b) scope dV kV doc pm an cdv ct) ps []
/-- what the law's text gives -/
structure Law (w : Wd) (ds : List Df) (K : Fg) (mg : Str → Option Value) : Prop where
  gl : ∀ (i : Nat) (x : Str), w.gn[i]? = some x → ∃ (u : Value) (v : V) (d : P), mg x = some u ∧ RelV v u ∧ w.gl[i]? = some d ∧ ∀ m H, RepP K m H d v
  bn : ∀ x ∈ bnames, mg x = none
  df : ∀ (i : Nat) (x : Str), w.fn[i]? = some x → ∃ d, ds[i]? = some d ∧ DfOk w K mg d x
section
variable {cl : Nat → Value} {w : Wd} {ds : List Df} {K : Fg} {mg : Str → Option Value}
theorem fn_k {Pr : Program} {wd : World} (L : Law w ds K mg) : ∀ (k i : Nat) (x : Str), w.fn[i]? = some x → ∃ (f : Addr) (fd : FuncData) (ps : List Str), mg x = some (.ref f) ∧ PySem.W.keepIn K (.ref f) = true ∧ L2.Binds K fd ps [] ∧
    (∀ base : Heap, FnG cl Pr wd K mg base k f fd ps (callK w.gl ds k i)) ∧ ∀ as st, callK w.gl ds k i as st ≠ .no → as.length = ps.length
  | 0, i, x, hx => by
    obtain ⟨d, hd, D⟩ := L.df i x hx
    obtain ⟨f, name, qual, params, scope, dV, kV, doc, pm, cdv, ct, oc, an, od, osl, N, ps, e1, e2, e3, e4, e5, e6, e7, e8, e9⟩ := D.ex
    exact ⟨f, _, ps, e1, e2, e9, fun _ => ⟨fun A outer s H args us vs Q E O ρ as st _ _ _ _ _ _ _ h => h.elim⟩, fun as st h => absurd rfl h⟩
  | k + 1, i, x, hx => by
    obtain ⟨d, hd, D⟩ := L.df i x hx
    obtain ⟨f, name, qual, params, scope, dV, kV, doc, pm, cdv, ct, oc, an, od, osl, N, ps, e1, e2, e3, e4, e5, e6, e7, e8, e9⟩ := D.ex
    have hc : callK w.gl ds (k + 1) i = fun vs st => if vs.length = ps.length then endX ((sem w.gl (callK w.gl ds k) d.b).s (vs.map some ++ List.replicate (d.m - ps.length) none) st) else .no := by
      funext vs st
      show (match ds[i]? with | some d => runD d (sem w.gl (callK w.gl ds k) d.b).s vs st | none => .no) = _
      rw [hd]
      show runD d _ vs st = _
      unfold runD
      rw [e7]
    refine ⟨f, _, ps, e1, e2, e9, fun base => ?_, fun as st h => ?_⟩
    · rw [hc]
      refine fn_g e3 e4 e5 e6 fun A outer s H E hr hgu => ?_
      refine (ok d.b).ss ⟨N, scope, fun _ => true⟩ _ E ?_ (L2.passes_of rfl) e8
      exact ⟨rfl, rfl, e5.nd, rfl, e5.kind, fun _ _ => rfl, L2.takes_of rfl rfl rfl rfl, hgu, L.gl, L.bn, k, hr, fun j y hy => let ⟨f, fd, ps, a, b, c, d, e⟩ := fn_k L k j y hy; ⟨f, fd, ps, a, b, c, d base, e⟩⟩
    · rw [hc] at h
      dsimp only at h
      by_cases q : as.length = ps.length
      · exact q
      · rw [if_neg q] at h
        exact absurd rfl h
end
/-! ### the law's end -/
/-- what is tracked at the law's call: the script (where it is none of the module's own), the code objects' tables -/
noncomputable def endH (K : Fg) (a : Addr) (o : Obj) (xs : List V) (T : List Addr) : Hp := fun b =>
  open Classical in if b = a ∧ K.lookup a = none then some (.frz o (.lst xs)) else if b ∈ T then some (.tbl #[]) else none
theorem law_g {cl : Nat → Value} {Pr : Program} {w : World} {K : Fg} {mg mb : Str → Option Value} {k : Nat} {fa a : Addr} {cs : List (Addr × Addr)} {fd : FuncData} {x : Str} {g : List Vl → Sr → R Vl} {s1 : Shared} {us : List Value} {ns : List Int}
    (KX : K.In s1.heap) (hG : s1.heap.Ns mainGlobals mg) (hB : s1.heap.Ns builtinsNs mb) (hBB : ∀ x : Str, x ≠ "__name__" → mb x = bootBuiltins x) (hL : s1.heap.NoLimit) (hgens : s1.gens = #[])
    (tabs : ∀ p ∈ cs, s1.heap.get? p.2 = some { cls := .none, data := .fields #[] } ∧ K.lookup p.2 = none ∧ PySem.W.CodeHd s1.heap p.1 p.2)
    (bmod : ∃ (bm : Addr) (ob : Obj), mg "__builtins__" = some (.ref bm) ∧ bm ≠ builtinsNs ∧ s1.heap.get? bm = some ob ∧ ob.cls = .type "module" ∧ ob.dict = some builtinsNs ∧ ob.data = .plain)
    (ha : s1.heap.get? a = some { cls := .type "list", data := .seq us.toArray }) (hi : IntsAre us ns) (hz : ns.length ≤ sizeLine) (room : Room k callerA)
    (F : ∀ base : Heap, K.In base → base.Ns mainGlobals mg → (∀ p ∈ cs, LamX.TabB base mg p.1 p.2) → FnG cl Pr w K mg base k fa fd [x] g) (hb : L2.Binds K fd [x] [])
    (hv : ∃ st', g [.p (.list (ns.map PyData.int))] [] = .ok (.p (.bool true)) st') :
    codeAny (model Pr w) callerA (.call (.ref fa) ⟨[.ref a], []⟩) (fun r s' => r = .ok (.ret (.bool true)) ∧ OldK s1.heap s'.heap ∧ s'.os = s1.os ∧ AllBare s'.gens) s1 := by
  have rv := L2.vals_ints hi
  have lu : us.length = ns.length := hi.length
  generalize hT : cs.map (·.2) = T
  have tab : ∀ {b : Addr}, b ∈ T → s1.heap.get? b = some { cls := .none, data := .fields #[] } ∧ K.lookup b = none := fun {b} h => by
    rw [← hT] at h
    obtain ⟨p, hp, rfl⟩ := List.mem_map.mp h
    exact ⟨(tabs p hp).1, (tabs p hp).2.1⟩
  have inT : ∀ p ∈ cs, p.2 ∈ T := fun p hp => hT ▸ List.mem_map.mpr ⟨p, hp, rfl⟩
  generalize hob : ({ cls := .type "list", data := .seq us.toArray } : Obj) = oa at ha
  have nat : a ∉ T := fun z => by
    have q := (tab z).1
    rw [ha, ← hob] at q
    cases congrArg Obj.data (Option.some.inj q)
  generalize hH : endH K a oa (ns.map V.int) T = H
  -- what H says at an address
  have cases3 : ∀ b : Addr, (b = a ∧ K.lookup a = none ∧ H b = some (.frz oa (.lst (ns.map V.int)))) ∨ (b ∈ T ∧ H b = some (.tbl #[])) ∨ ((b = a → K.lookup a ≠ none) ∧ b ∉ T ∧ H b = none) := fun b => by
    subst hH
    unfold endH
    by_cases h1 : b = a ∧ K.lookup a = none
    · exact .inl ⟨h1.1, h1.2, if_pos h1⟩
    · by_cases h2 : b ∈ T
      · exact .inr (.inl ⟨h2, by rw [if_neg h1, if_pos h2]⟩)
      · exact .inr (.inr ⟨fun e q => h1 ⟨e, q⟩, h2, by rw [if_neg h1, if_neg h2]⟩)
  have untr : ∀ {b : Addr} {o : Obj}, s1.heap.get? b = some o → (∀ xs n, o.data ≠ .seq xs n) → o.data ≠ .fields #[] → H b = none := fun {b o} e n1 n2 => by
    rcases cases3 b with ⟨rfl, _, _⟩ | ⟨h, _⟩ | ⟨_, _, h⟩
    · rw [ha, ← hob] at e; cases e; exact absurd rfl (n1 _ _)
    · rw [(tab h).1] at e; cases e; exact absurd rfl n2
    · exact h
  have low : ∀ {b : Addr} {o : Obj}, s1.heap.get? b = some o → H b = none → (hidT s1.heap H).get? b = some o := fun e n => L2.hidT_get e n
  have lowNs : ∀ {b : Addr} {m : Str → Option Value}, s1.heap.Ns b m → (hidT s1.heap H).Ns b m := fun ⟨o, es, ep, e, d, r⟩ => ⟨o, es, ep, low e (untr e (fun _ _ z => by rw [d] at z; cases z) fun z => by rw [d] at z; cases z), d, r⟩
  have KB : K.In (hidT s1.heap H) := fun b o e => low (KX b o e) (by
    rcases cases3 b with ⟨rfl, h, _⟩ | ⟨h, _⟩ | ⟨_, _, h⟩
    · rw [h] at e; cases e
    · rw [(tab h).2] at e; cases e
    · exact h)
  obtain ⟨mc, l1, l2⟩ := hL
  have M : L2.Mod K mg (hidT s1.heap H) := ⟨KB, lowNs hG, ⟨mb, lowNs hB, hBB⟩, mc, lowNs l1, l2⟩
  have TB : ∀ p ∈ cs, LamX.TabB (hidT s1.heap H) mg p.1 p.2 := fun p hp => by
    obtain ⟨t1, _, o, ws, file, tf, flags, tg, inF, text, tt, c1, c2, c3, c4, cr⟩ := tabs p hp
    obtain ⟨bm, ob, b1, b2, b3, b4, b5, b6⟩ := bmod
    obtain ⟨og, es, ep, g1, g2, _⟩ := id hG
    have hne : mainGlobals ≠ p.2 := fun z => by rw [z, t1] at g1; cases g1; cases g2
    have hbp : bm ≠ p.2 := fun z => by rw [z, t1] at b3; cases b3; cases b6
    have hbg : bm ≠ mainGlobals := fun z => by rw [z, g1] at b3; cases b3; rw [g2] at b6; cases b6
    have ub : H bm = none := untr b3 (fun _ _ z => by rw [b6] at z; cases z) fun z => by rw [b6] at z; cases z
    have uc : H p.1 = none := untr c1 (fun _ _ z => by rw [c3] at z; cases z) fun z => by
      rw [c3] at z; cases z; simp at c4
    exact ⟨⟨o, ws, file, tf, flags, tg, inF, text, tt, low c1 uc, c2, c3, c4, cr⟩, ⟨bm, ob, b1, b2, hbg, hbp, low b3 ub, b4, b5, b6⟩, hne⟩
  have okH : HOk Pr w H s1.heap := fun b u e => by
    rcases cases3 b with ⟨rfl, _, h⟩ | ⟨ht, h⟩ | ⟨_, _, h⟩
    · rw [h] at e; cases e
      exact ⟨ha, by rw [List.length_map]; exact hz, us, 0, rv, by rw [hob]; exact ha⟩
    · rw [h] at e; cases e
      exact (tab ht).1
    · rw [h] at e; cases e
  have E0 : Env0 Pr w K mg (hidT s1.heap H) callerA [] s1 H := ⟨rfl, M, fun _ _ e => L2.of_hidT e, Nat.le_of_eq (L2.hidT_size _ _), trivial, fun b hb => by simp [L2.frs] at hb, okH, .of_eq hgens⟩
  have RS : RelS K (fun _ => False) (fun _ => 0) H [] := ⟨fun _ _ h => by simp at h, fun _ _ h => by simp at h, fun _ h => by simp at h, fun _ h => h.elim⟩
  have noMt : ∀ b, ¬ Mt (fun _ => False) (fun _ => 0) [] b := fun b q => q.elim id fun ⟨_, _, h, _⟩ => by simp at h
  have reqI : ∀ (l : List Int), ReqP K (Mt (fun _ => False) (fun _ => 0) []) H (l.map PyData.int) (l.map V.int) := fun l => by
    induction l with
    | nil => exact .nil
    | cons i l ih => exact .cons (.int i) ih
  have ls : LsD K (Mt (fun _ => False) (fun _ => 0) []) H a (ns.map V.int) := by
    rcases cases3 a with ⟨_, _, h⟩ | ⟨h, _⟩ | ⟨h, _, _⟩
    · exact .inl ⟨.inr ⟨oa, h⟩, noMt a⟩
    · exact absurd h nat
    · cases q : K.lookup a with
      | none => exact absurd q (h rfl)
      | some o =>
        have e := KX a o q
        rw [ha] at e
        cases e
        exact .inr ⟨us, 0, by rw [q, ← hob], by rw [List.length_map]; exact hz, rv⟩
  obtain ⟨st', hv⟩ := hv
  refine codeAny_mono ((F _ KB (lowNs hG) TB).run callerA [] s1 H ⟨[.ref a], []⟩ [.ref a] [.ref a] (fun v _ => v = .bl true) (fun _ _ _ => False) _ _ [.p (.list (ns.map PyData.int))] [] room rfl E0 (hb s1 [.ref a] KX rfl) (.cons rfl .nil) RS (.cons (RepP.lst ls (reqI ns)) .nil)
    (by rw [hv]; exact fun ρ' H' b _ _ r => RepP.bl_inv r)) fun r s' h => ?_
  match r, h with
  | .error e, h => obtain ⟨_, _, _, _, _, _, _, _, _, _, _, _, h⟩ := h; exact h.elim
  | .ok .next, h => exact h.elim
  | .ok .brk, h => exact h.elim
  | .ok .cont, h => exact h.elim
  | .ok (.ret u), h =>
    obtain ⟨v, H', os, bare, un, hok', r', q⟩ := h
    cases (show v = .bl true from q)
    cases (show u = Value.bool true from r')
    have stay : ∀ b o, b ∉ T → s1.heap.get? b = some o → s'.heap.get? b = some o := fun b o nb e => by
      rcases cases3 b with ⟨rfl, _, h⟩ | ⟨h, _⟩ | ⟨_, _, h⟩
      · have f := un.frzs b _ _ h
        rw [ha] at e; cases e
        exact (hok' b _ f).1
      · exact absurd h nb
      · exact un.keep b o e h (by simp [L2.frs]) (by simp)
    have more : ∀ b, b ∈ T → ∃ ps : Array Value, s'.heap.get? b = some { cls := .none, data := .fields ps } := fun b hb => by
      rcases cases3 b with ⟨rfl, _, _⟩ | ⟨_, h⟩ | ⟨_, h, _⟩
      · exact absurd hb nat
      · obtain ⟨ps, e⟩ := un.tbls b _ h
        exact ⟨_, hok' b _ e⟩
      · exact absurd hb h
    refine ⟨rfl, ⟨fun b o e => ?_, fun b o e => ?_⟩, os, bare⟩
    · by_cases hb : b ∈ T
      · obtain ⟨ps, e2⟩ := more b hb
        rw [(tab hb).1] at e
        cases e
        rw [← hT] at hb
        obtain ⟨p, hp, rfl⟩ := List.mem_map.mp hb
        exact .inr (.inl ⟨((tabs p hp).2.2.tab (tabs p hp).1).isCodeTable, rfl, #[], ps, rfl, by rw [Array.empty_append]; exact e2⟩)
      · exact .inl (stay b o hb e)
    · by_cases hb : b ∈ T
      · obtain ⟨ps, e2⟩ := more b hb
        exact ⟨_, e2⟩
      · exact ⟨o, stay b o hb e⟩
end Mi
end
section
set_option Elab.async false
set_option linter.all false
set_option maxRecDepth 100000
set_option maxHeartbeats 2000000
/-! M23: from the law's value to the row's walk; a def's facts. -/
namespace Mi
open PySem PySem.Spec PyProof.Rows
open L2 (V HO Hp upd upd_same upd_ne RelV Room defArgs defBody defScope)
/-- a def's facts, from the top's text -/
theorem df_mk {w : Wd} {K : Fg} {mg : Str → Option Value} {h : Heap} (X : K.In h) (G : h.Ns mainGlobals mg) {d : Df} {x name qual : Str} {st : Stmt} {N ps : List Str} {f : Addr} {od an : Option Addr} {sl : Array (Option Value)} {oc kV doc pm cdv ct : Value}
    (a : PySem.W.nsIn K mainGlobals x = some (some (.ref f))) (l : K.lookup f = some ⟨oc, od, .func (PySem.W.fnOf name qual (defArgs st) (defBody st) (defScope st) .none kV doc pm an cdv ct), sl⟩) (c : PySem.W.codeIn K cdv qual = true) (k : PySem.W.keepIn K (.ref f) = true)
    (eb : defBody st = toSs d.b) (hs : C8.scC N ps (defScope st) = true) (hm : N.length = d.m) (hn : ps.length = d.n) (hw : (wf w d.b ⟨N, defScope st, fun _ => true⟩).ss = true)
    (hb : ∀ (kV doc pm : Value) (an : Option Addr) (cdv ct : Value) (us : List Value), us.length = ps.length → bindArgs (PySem.W.fnOf name qual (defArgs st) (defBody st) (defScope st) .none kV doc pm an cdv ct) ⟨us, []⟩ = pure (ps.zip us)) : DfOk w K mg d x :=
  ⟨⟨f, name, qual, defArgs st, defScope st, .none, kV, doc, pm, cdv, ct, oc, an, od, sl, N, ps, PySem.W.mg_of X G a, k, eb ▸ l, c, C8.fnScope_by hs, hm, hn, hw, .all (eb ▸ hb kV doc pm an cdv ct)⟩⟩
theorem loose_int {p : Program} {lv : List (Str × PySem.W.WData)} {mg : Str → Option Value} {h : Heap} {x : Str} {n : Int} (X : PySem.W.XL p lv mg h) (hx : (x, PySem.W.WData.int n) ∈ lv) : ∃ u, mg x = some u ∧ RelV (.int n) u := by
  obtain ⟨v, e, r⟩ := X.2.val _ hx
  cases r with
  | int _ t => exact ⟨_, e, t, rfl⟩
/-- the row's walk from the law's value -/
theorem walk_m {l : PySem.W.OpenLaw} {n k i : Nat} {q : Program} {loose : List Str} {XP : (Str → Option Value) → Heap → Prop} {YP : World → Heap → Prop} {d : DefRec} {K : Params → PySem.W.Frag} {w : Wd} {ds : List Df}
    (hn : l.most = some n) (hn2 : n ≤ sizeLine) (hdf : d.params.defaults = []) (hr : Room k callerA) (hi : w.fn[i]? = some d.name)
    (hY : ∀ (w : World) (h : Heap), YP w h → (K w.params).In h)
    (F : ∀ (wd : World) (mg : Str → Option Value) (h : Heap), (K wd.params).In h → h.Ns mainGlobals mg → XP mg h → Law w ds (K wd.params) mg)
    (hv : ∀ ns : List Int, ns.length ≤ n → (∀ z ∈ ns, Builtin.Int.intBits z ≤ 1048576) → ∃ st', callK w.gl ds k i [.p (.list (ns.map PyData.int))] [] = .ok (.p (.bool true)) st') :
    PySem.W.WalkO q loose XP YP l.row.toRowW d [] (fun f vs => PySem.call f vs) := by
  refine Att.attach_callB hn hdf fun wd s₀ s₁ mg mb fa o pm cd doc a vs ns G Y ho hd hcd hmg hobj hints hlen hbits hg => ?_
  have KX := hY wd _ Y
  have L := F wd mg _ KX G.T.g G.X
  obtain ⟨st', hv⟩ := hv ns hlen hbits
  obtain ⟨f, fd, ps, e1, e2, e3, e4, e5⟩ := fn_k (cl := fun _ => .none) (Pr := l.prog) (wd := wd) L k i d.name hi
  have e := hmg.symm.trans e1
  cases e
  have hl := e5 [.p (.list (ns.map PyData.int))] [] (by rw [hv]; intro z; cases z)
  match ps, hl with
  | [x], _ =>
    refine law_g (cl := fun _ => .none) (cs := []) (x := x) KX G.T.g G.T.b G.T.builtins G.T.nolimit hg (fun p hp => by cases hp) G.T.bmain hobj hints (Nat.le_trans hlen hn2) hr (fun base hK hM _ => e4 base) e3 ⟨st', hv⟩
end Mi
end
section
set_option Elab.async false
set_option linter.all false
set_option maxRecDepth 100000
/-! E1: how a tree's meaning is worked out: what the combinators do at values. -/
namespace Mi
open PySem
section
variable {α β : Type} {s s' : Sr} {e e' : En} {v w : Vl} {x y z : P} {i j : Int} {gl : List P} {F : Nat → List Vl → Sr → R Vl}
@[simp] theorem bd_ok {a : α} {f : α → Sr → R β} : (R.ok a s).bd f = f a s := rfl
@[simp] theorem bd_no {f : α → Sr → R β} : (R.no : R α).bd f = .no := rfl
@[simp] theorem bx_ok {a : α} {f : α → Sr → X} : (R.ok a s).bx f = f a s := rfl
@[simp] theorem bx_no {f : α → Sr → X} : (R.no : R α).bx f = .no := rfl
@[simp] theorem th_nx {f : En → Sr → X} : (X.nx e s).th f = f e s := rfl
@[simp] theorem th_rt {f : En → Sr → X} : (X.rt v s).th f = .rt v s := rfl
@[simp] theorem th_bk {f : En → Sr → X} : (X.bk e s).th f = .bk e s := rfl
@[simp] theorem th_ct {f : En → Sr → X} : (X.ct e s).th f = .ct e s := rfl
@[simp] theorem th_no {f : En → Sr → X} : (X.no).th f = .no := rfl
@[simp] theorem of_some {a : α} : R.of (some a) s = .ok a s := rfl
@[simp] theorem of_none : R.of (none : Option α) s = .no := rfl
@[simp] theorem dd_p : dd (.p x) s = some x := rfl
theorem dd_r {n k : Nat} {xs : List P} (h : s[n]? = some (.lp k xs)) : dd (.r n) s = some (.list xs) := by simp [dd, h]
@[simp] theorem ddL_nil : ddL [] s = some [] := rfl
@[simp] theorem ddL_cons {vs : List Vl} : ddL (v :: vs) s = (dd v s).bind fun x => (ddL vs s).map (x :: ·) := by
  simp only [ddL]
  cases dd v s <;> cases ddL vs s <;> rfl
@[simp] theorem ddL_ps {xs : List P} : ddL (xs.map .p) s = some xs := by
  induction xs with
  | nil => rfl
  | cons x xs ih => simp [ih]
@[simp] theorem toP_p : toP (.p x) s = some (x, s) := rfl
@[simp] theorem toPL_nil : toPL [] s = some ([], s) := rfl
@[simp] theorem toPL_cons {vs : List Vl} : toPL (.p x :: vs) s = (toPL vs s).map fun q => (x :: q.1, q.2) := by
  simp only [toPL, toP]
  cases toPL vs s <;> rfl
@[simp] theorem toPL_ps {xs : List P} : toPL (xs.map .p) s = some (xs, s) := by
  induction xs with
  | nil => rfl
  | cons x xs ih => simp [ih]
@[simp] theorem truV_bool {b : Bool} : truV (.p (.bool b)) s = some b := rfl
@[simp] theorem truV_int : truV (.p (.int i)) s = some (i != 0) := rfl
@[simp] theorem truV_none : truV (.p .none) s = some false := rfl
@[simp] theorem tst_ok : tst (.ok v s) = R.of (truV v s) s := rfl
@[simp] theorem tst_no : tst .no = .no := rfl
@[simp] theorem op1_ok {f : P → Option P} : op1 f (.ok v s) = R.of (((dd v s).bind f).map .p) s := by
  simp only [op1, bd_ok]
  cases dd v s with
  | none => rfl
  | some a => cases h : f a <;> simp [h]
@[simp] theorem op1_no {f : P → Option P} : op1 f .no = .no := rfl
@[simp] theorem op2_ok {f : P → P → Option P} {g : Sr → R Vl} : op2 f (.ok v s) g = (g s).bd fun w s => R.of (((dd v s).bind fun a => (dd w s).bind fun b => f a b).map .p) s := by
  simp only [op2, bd_ok]
  cases g s with
  | ok w s =>
    simp only [bd_ok]
    cases dd v s with
    | none => rfl
    | some a =>
      cases dd w s with
      | none => rfl
      | some b => cases h : f a b <;> simp [h]
  | ex => rfl
  | no => rfl
@[simp] theorem op2_no {f : P → P → Option P} {g : Sr → R Vl} : op2 f .no g = .no := rfl
@[simp] theorem opL_ok {f : List P → Option P} {vs : List Vl} : opL f (.ok vs s) = R.of (((ddL vs s).bind f).map .p) s := by
  simp only [opL, bd_ok]
  cases ddL vs s with
  | none => rfl
  | some a => cases h : f a <;> simp [h]
@[simp] theorem opL_no {f : List P → Option P} : opL f .no = .no := rfl
@[simp] theorem orP_ok {f : Sr → R Vl} {b : Bool} : orP (.ok v s) f b = (R.of (truV v s) s).bd fun c s => if c = b then .ok v s else f s := by
  simp only [orP, bd_ok]
  cases truV v s <;> rfl
@[simp] theorem orP_no {f : Sr → R Vl} {b : Bool} : orP .no f b = .no := rfl
@[simp] theorem outOf_tup {xs : List P} : outOf (.p (.tuple xs)) s = some (xs.map .p) := rfl
@[simp] theorem isR_r {n : Nat} : isR (.r n) = true := rfl
@[simp] theorem endX_nx : endX (.nx e s) = .ok (.p .none) s := rfl
@[simp] theorem endX_rt : endX (.rt v s) = .ok v s := rfl
@[simp] theorem endX_no : endX .no = .no := rfl
@[simp] theorem ty_ii : tyP "int" (.int i) = some true := rfl
@[simp] theorem ty_ib {b : Bool} : tyP "int" (.bool b) = some true := rfl
@[simp] theorem ty_is {x : Str} : tyP "int" (.str x) = some false := rfl
@[simp] theorem ty_it {xs : List P} : tyP "int" (.tuple xs) = some false := rfl
@[simp] theorem ty_il {xs : List P} : tyP "int" (.list xs) = some false := rfl
@[simp] theorem ty_in : tyP "int" .none = some false := rfl
@[simp] theorem ty_id {kv : List (P × P)} : tyP "int" (.dict kv) = some false := rfl
@[simp] theorem ty_bi : tyP "bool" (.int i) = some false := rfl
@[simp] theorem ty_bb {b : Bool} : tyP "bool" (.bool b) = some true := rfl
@[simp] theorem ty_tt {xs : List P} : tyP "tuple" (.tuple xs) = some true := rfl
@[simp] theorem ty_tl {xs : List P} : tyP "tuple" (.list xs) = some false := rfl
@[simp] theorem ty_ti : tyP "tuple" (.int i) = some false := rfl
@[simp] theorem ty_tb {b : Bool} : tyP "tuple" (.bool b) = some false := rfl
@[simp] theorem ty_tn : tyP "tuple" .none = some false := rfl
@[simp] theorem ty_ts {x : Str} : tyP "tuple" (.str x) = some false := rfl
@[simp] theorem ty_ss {x : Str} : tyP "str" (.str x) = some true := rfl
@[simp] theorem blP_some {b : Bool} : blP (some b) = some (.bool b) := rfl
@[simp] theorem lnk_p {o : CmpOp} : lnk o (.p x) (.p y) s = cmpP o x y := rfl
@[simp] theorem c_lt : cmpP .Lt (.int i) (.int j) = some (decide (i < j)) := rfl
@[simp] theorem c_le : cmpP .LtE (.int i) (.int j) = some (decide (i ≤ j)) := rfl
@[simp] theorem c_gt : cmpP .Gt (.int i) (.int j) = some (decide (j < i)) := rfl
@[simp] theorem c_ge : cmpP .GtE (.int i) (.int j) = some (decide (j ≤ i)) := rfl
@[simp] theorem c_eq : cmpP .Eq (.int i) (.int j) = some (decide (i = j)) := rfl
@[simp] theorem c_ne : cmpP .NotEq (.int i) (.int j) = some (!decide (i = j)) := rfl
@[simp] theorem c_eqs {x y : Str} : cmpP .Eq (.str x) (.str y) = some (decide (x = y)) := rfl
@[simp] theorem c_nes {x y : Str} : cmpP .NotEq (.str x) (.str y) = some (!decide (x = y)) := rfl
@[simp] theorem b_add : binP .Add (.int i) (.int j) = some (.int (i + j)) := rfl
@[simp] theorem b_sub : binP .Sub (.int i) (.int j) = some (.int (i - j)) := rfl
theorem b_mul (h : MulOk i j) : binP .Mult (.int i) (.int j) = some (.int (i * j)) := if_pos h
theorem b_div (h : DivOk j) : binP .FloorDiv (.int i) (.int j) = some (.int (i / j)) := if_pos h
theorem b_mod (h : 0 < j) : binP .Mod (.int i) (.int j) = some (.int (i % j)) := if_pos h
theorem b_pow (h : PowOk i j) : binP .Pow (.int i) (.int j) = some (.int (i ^ j.toNat)) := if_pos h
@[simp] theorem bi_int : biP .int [.int i] = some (.int i) := rfl
@[simp] theorem bi_intb {b : Bool} : biP .int [.bool b] = some (.int (if b then 1 else 0)) := rfl
@[simp] theorem bi_abs : biP .abs [.int i] = some (.int (if i < 0 then -i else i)) := rfl
@[simp] theorem bi_lenT {xs : List P} : biP .len [.tuple xs] = some (.int xs.length) := rfl
@[simp] theorem bi_lenL {xs : List P} : biP .len [.list xs] = some (.int xs.length) := rfl
@[simp] theorem bi_tupL {xs : List P} : biP .tuple [.list xs] = some (.tuple xs) := rfl
@[simp] theorem bi_listT {xs : List P} : biP .list [.tuple xs] = some (.list xs) := rfl
@[simp] theorem bi_max2 : biP .max [.int i, .int j] = some (.int (if j > i then j else i)) := rfl
@[simp] theorem bi_min2 : biP .min [.int i, .int j] = some (.int (if j < i then j else i)) := rfl
@[simp] theorem bools_map {bs : List Bool} : bools? (bs.map .bool) = some bs := by
  induction bs with
  | nil => rfl
  | cons b r ih => simp [bools?, ih]
@[simp] theorem ints_map {ns : List Int} : ints? (ns.map .int) = some ns := by
  induction ns with
  | nil => rfl
  | cons b r ih => simp [ints?, ih]
@[simp] theorem bi_all {bs : List Bool} : biP .all [.list (bs.map .bool)] = some (.bool (bs.all id)) := by simp [biP]
@[simp] theorem bi_any {bs : List Bool} : biP .any [.list (bs.map .bool)] = some (.bool (bs.any id)) := by simp [biP]
@[simp] theorem bi_sumL {ns : List Int} : biP .sum [.list (ns.map .int)] = some (.int ns.sum) := by simp [biP]
@[simp] theorem bi_sumT {ns : List Int} : biP .sum [.tuple (ns.map .int)] = some (.int ns.sum) := by simp [biP]
@[simp] theorem s_c_e {x : Const} {k : Nat} {p : Pos} : (sem gl F (.c x k p)).e = eC x := rfl
@[simp] theorem s_v_e {n : Nat} {x : Str} {p : Pos} : (sem gl F (.v n x p)).e = eV n := rfl
@[simp] theorem s_v_k {n : Nat} {x : Str} {p : Pos} : (sem gl F (.v n x p)).k = kV n := rfl
@[simp] theorem s_g_e {n : Nat} {x : Str} {p : Pos} : (sem gl F (.g n x p)).e = eG gl n := rfl
@[simp] theorem s_tup_e {a : T} {k : Nat} {p : Pos} : (sem gl F (.tup a k p)).e = eTup (sem gl F a) := rfl
@[simp] theorem s_tup_k {a : T} {k : Nat} {p : Pos} : (sem gl F (.tup a k p)).k = kTup (cnt a) (sem gl F a) := rfl
@[simp] theorem s_lst_e {m : Bool} {a : T} {p : Pos} : (sem gl F (.lst m a p)).e = eLst m (sem gl F a) := rfl
@[simp] theorem s_ix_e {a b : T} {p : Pos} : (sem gl F (.ix a b p)).e = eIx (sem gl F a) (sem gl F b) := rfl
@[simp] theorem s_ix_k {a b : T} {p : Pos} : (sem gl F (.ix a b p)).k = kIx (sem gl F a) (sem gl F b) := rfl
@[simp] theorem s_sl_e {a lo hi : T} {p q : Pos} : (sem gl F (.sl a lo hi p q)).e = eSl (sem gl F a) (sem gl F lo) (sem gl F hi) := rfl
@[simp] theorem s_rv_e {a : T} {k : Nat} {p p1 p2 p3 : Pos} : (sem gl F (.rv a k p p1 p2 p3)).e = eRv (sem gl F a) := rfl
@[simp] theorem s_bin_e {a b : T} {o : Operator} {p : Pos} : (sem gl F (.bin a o b p)).e = eBin o (sem gl F a) (sem gl F b) := rfl
@[simp] theorem s_neg_e {a : T} {p : Pos} : (sem gl F (.neg a p)).e = eNeg (sem gl F a) := rfl
@[simp] theorem s_nt_e {a : T} {p : Pos} : (sem gl F (.nt a p)).e = eNt (sem gl F a) := rfl
@[simp] theorem s_cmp_e {a b : T} {o : CmpOp} {p : Pos} : (sem gl F (.cmp a o b p)).e = eCmp o (sem gl F a) (sem gl F b) := rfl
@[simp] theorem s_cm2_e {a b c : T} {o q : CmpOp} {p : Pos} : (sem gl F (.cm2 a o b q c p)).e = eCm2 o q (sem gl F a) (sem gl F b) (sem gl F c) := rfl
@[simp] theorem s_and_e {a : T} {p : Pos} : (sem gl F (.bo .And a p)).e = (sem gl F a).bo false := rfl
@[simp] theorem s_or_e {a : T} {p : Pos} : (sem gl F (.bo .Or a p)).e = (sem gl F a).bo true := rfl
@[simp] theorem s_ite_e {c a b : T} {p : Pos} : (sem gl F (.ite c a b p)).e = eIte (sem gl F c) (sem gl F a) (sem gl F b) := rfl
@[simp] theorem s_bi_e {f : Bi} {x : Str} {a : T} {p0 p : Pos} : (sem gl F (.bi f x a p0 p)).e = eBi f (sem gl F a) := rfl
@[simp] theorem s_isi_e {a : T} {t : Str} {p0 p1 p : Pos} : (sem gl F (.isi a t p0 p1 p)).e = eIsi t (sem gl F a) := rfl
@[simp] theorem s_cal_e {f : Nat} {m : Bool} {x : Str} {a : T} {p0 p : Pos} : (sem gl F (.cal f m x a p0 p)).e = eCal (F f) m (sem gl F a) := rfl
@[simp] theorem s_lzp_e {a : T} {p0 p1 p2 p : Pos} : (sem gl F (.lzp a p0 p1 p2 p)).e = eLzp (sem gl F a) := rfl
@[simp] theorem s_lsm_e {a : T} {p0 p : Pos} : (sem gl F (.lsm a p0 p)).e = eLsm (sem gl F a) := rfl
@[simp] theorem s_rpm_e {a b : T} {p : Pos} : (sem gl F (.rpm a b p)).e = eRpm (sem gl F a) (sem gl F b) := rfl
@[simp] theorem s_lrg_e {x : Str} {a : T} {p0 p1 p2 p : Pos} : (sem gl F (.lrg x a p0 p1 p2 p)).e = eLrg (sem gl F a) := rfl
@[simp] theorem s_cp_e {m : Bool} {elt tg it cond : T} {sc : Scope} {own : List (Str × Nat)} {p : Pos} : (sem gl F (.cp m elt tg it cond sc own p)).e = eCp m (sem gl F elt) (sem gl F tg) (sem gl F it) (sem gl F cond) (own.map (·.2)) := rfl
@[simp] theorem s_app_e {o x : T} {p0 p : Pos} : (sem gl F (.app o x p0 p)).e = eApp (sem gl F o) (sem gl F x) := rfl
@[simp] theorem s_met_e {f : Me} {o a : T} {p0 p : Pos} : (sem gl F (.met f o a p0 p)).e = eMet f (sem gl F o) (sem gl F a) := rfl
@[simp] theorem s_sb_e {b : Bool} {a : T} {p0 p1 p2 p : Pos} : (sem gl F (.sb b a p0 p1 p2 p)).e = eSb b (sem gl F a) := rfl
@[simp] theorem s_dct0_e {p : Pos} : (sem gl F (.dct0 p)).e = eD0 := rfl
@[simp] theorem s_dct1_e {a b : T} {p : Pos} : (sem gl F (.dct1 a b p)).e = eD1 (sem gl F a) (sem gl F b) := rfl
@[simp] theorem s_dcp_e {kx vx tg it cond : T} {sc : Scope} {own : List (Str × Nat)} {p : Pos} : (sem gl F (.dcp kx vx tg it cond sc own p)).e = eDc (sem gl F kx) (sem gl F vx) (sem gl F tg) (sem gl F it) (sem gl F cond) (own.map (·.2)) := rfl
@[simp] theorem s_dix_e {a b : T} {p : Pos} : (sem gl F (.dix a b p)).e = eDix (sem gl F a) (sem gl F b) := rfl
@[simp] theorem s_din_e {n : Bool} {a b : T} {p : Pos} : (sem gl F (.din n a b p)).e = eDin n (sem gl F a) (sem gl F b) := rfl
@[simp] theorem s_dme_e {f : Me} {o a : T} {p0 p : Pos} : (sem gl F (.dme f o a p0 p)).e = eDme f (sem gl F o) (sem gl F a) := rfl
@[simp] theorem s_itm_i {x : T} {p0 p : Pos} : (sem gl F (.itm x p0 p)).i = iWk true (sem gl F x) := rfl
@[simp] theorem s_dwk_i {x : T} : (sem gl F (.dwk x)).i = iWk false (sem gl F x) := rfl
@[simp] theorem s_das_s {n : Nat} {x : Str} {px p : Pos} {d : T} : (sem gl F (.das n x px d p)).s = fun e s => ((sem gl F d).e e s).bx fun v s => kV n v e s := rfl
@[simp] theorem s_dst_s {a b x : T} {q p : Pos} : (sem gl F (.dst a b x q p)).s = sDst (sem gl F a) (sem gl F b) (sem gl F x) := rfl
@[simp] theorem s_dag_s {a b x : T} {o : Operator} {q p : Pos} : (sem gl F (.dag a b o x q p)).s = sDag o (sem gl F a) (sem gl F b) (sem gl F x) := rfl
@[simp] theorem u_d0 : eD0 e s = .ok (.r s.length) (s ++ [.dp 0 []]) := rfl
@[simp] theorem u_dix {a b : Sm} : eDix a b e s = (a.e e s).bd fun o s => (b.e e s).bd fun i s => R.of ((dixV o i s).map .p) s := rfl
@[simp] theorem u_din {n : Bool} {a b : Sm} : eDin n a b e s = (a.e e s).bd fun x s => (b.e e s).bd fun o s => R.of ((dinV n x o s).map fun b => .p (.bool b)) s := rfl
@[simp] theorem u_dme {f : Me} {o a : Sm} : eDme f o a e s = (o.e e s).bd fun o s => if dat0 o s = true then (a.a e s).bd fun vs s => dmeV f o vs s else .no := rfl
@[simp] theorem u_iwk {b : Bool} {x : Sm} : iWk b x e s = (x.e e s).bd fun v s => wkV b v s := rfl
@[simp] theorem u_edc {kx vx tg it cond : Sm} {own : List Nat} : eDc kx vx tg it cond own e s = (it.i e s).bd fun w s => (dcAll tg cond kx vx (wipeE e own) w s).bd fun kvs s => .ok (.r s.length) (s ++ [.dp 0 kvs]) := rfl
theorem u_d1 {a b : Sm} {k y : P} {s' : Sr} (h1 : a.e e s = .ok (.p k) s) (h2 : b.e e s = .ok (.p y) s) (hk : isKey k = true) : eD1 a b e s = .ok (.r s.length) (s ++ [.dp 0 [(k, y)]]) := by
  simp [eD1, h1, h2, mkD1, key?, hk]
@[simp] theorem u_dst {a b x : Sm} : sDst a b x e s = (x.e e s).bx fun v s => (a.e e s).bx fun o s => (b.e e s).bx fun i s => (R.of (dputV o i v s) s).bx fun s' _ => .nx e s' := by
  simp only [sDst]
  congr 1; funext v s; congr 1; funext o s; congr 1; funext i s
  cases dputV o i v s <;> rfl
@[simp] theorem u_dag {o : Operator} {a b x : Sm} : sDag o a b x e s = (a.e e s).bx fun l s => (b.e e s).bx fun i s => (R.of (dixV l i s) s).bx fun v s => (x.e e s).bx fun w s => (R.of (agV o (.p v) w s) s).bx fun c s => (R.of (dputV l i (.p c) s) s).bx fun s' _ => .nx e s' := by
  simp only [sDag]
  congr 1; funext l s; congr 1; funext i s
  cases dixV l i s with
  | none => rfl
  | some v =>
    show (x.e e s).bx _ = (x.e e s).bx _
    congr 1; funext w s
    cases agV o (.p v) w s with
    | none => rfl
    | some c => 
      show (match dputV l i (.p c) s with | some s => X.nx e s | none => .no) = (R.of (dputV l i (.p c) s) s).bx _
      cases dputV l i (.p c) s <;> rfl
@[simp] theorem s_pl_e {x : T} : (sem gl F (.pl x)).e = (sem gl F x).e := rfl
@[simp] theorem s_pl_i {x : T} : (sem gl F (.pl x)).i = iPl (sem gl F x) := rfl
@[simp] theorem s_pl_z {x : T} : (sem gl F (.pl x)).z = false := rfl
@[simp] theorem s_rg_i {a : T} {p0 p : Pos} : (sem gl F (.rg a p0 p)).i = iRg (sem gl F a) := rfl
@[simp] theorem s_en_i {a : T} {p0 p : Pos} : (sem gl F (.en a p0 p)).i = iEn (sem gl F a) := rfl
@[simp] theorem s_ez_i {a : T} {p0 p1 p2 p : Pos} : (sem gl F (.ez a p0 p1 p2 p)).i = iEz (sem gl F a) := rfl
@[simp] theorem s_zp_i {a : T} {p0 p : Pos} : (sem gl F (.zp a p0 p)).i = iZp (sem gl F a) := rfl
@[simp] theorem s_nil_a : (sem gl F (.nil)).a = fun _ s => .ok [] s := rfl
@[simp] theorem s_nil_s : (sem gl F (.nil)).s = fun e s => .nx e s := rfl
@[simp] theorem s_nil_ks : (sem gl F (.nil)).ks = ksNil := rfl
@[simp] theorem s_nil_z : (sem gl F (.nil)).z = true := rfl
@[simp] theorem s_cons_e {a b : T} : (sem gl F (.cons a b)).e = (sem gl F a).e := rfl
@[simp] theorem s_cons_a {a b : T} : (sem gl F (.cons a b)).a = aCons (sem gl F a) (sem gl F b) := rfl
@[simp] theorem s_cons_s {a b : T} : (sem gl F (.cons a b)).s = fun e s => ((sem gl F a).s e s).th (sem gl F b).s := rfl
@[simp] theorem s_cons_ks {a b : T} : (sem gl F (.cons a b)).ks = ksCons (sem gl F a) (sem gl F b) := rfl
@[simp] theorem s_cons_bo {a b : T} : (sem gl F (.cons a b)).bo = boCons (sem gl F a) (sem gl F b) := rfl
@[simp] theorem s_cons_z {a b : T} : (sem gl F (.cons a b)).z = false := rfl
@[simp] theorem s_star_a {a b : T} {p : Pos} : (sem gl F (.star a b p)).a = aStar (sem gl F a) (sem gl F b) := rfl
@[simp] theorem s_as_s {t x : T} {p : Pos} : (sem gl F (.as t x p)).s = sAs (sem gl F t) (sem gl F x) := rfl
@[simp] theorem s_pa_s {ts es : T} {k1 k2 : Nat} {p1 p2 p : Pos} : (sem gl F (.pa ts es k1 k2 p1 p2 p)).s = sPa (sem gl F ts) (sem gl F es) := rfl
@[simp] theorem s_ag_s {t x : T} {o : Operator} {p : Pos} : (sem gl F (.ag t o x p)).s = sAg o (sem gl F t) (sem gl F x) := rfl
@[simp] theorem s_agI_s {a b x : T} {o : Operator} {q p : Pos} : (sem gl F (.agI a b o x q p)).s = sAgI o (sem gl F a) (sem gl F b) (sem gl F x) := rfl
@[simp] theorem s_iff_s {c a b : T} {p : Pos} : (sem gl F (.iff c a b p)).s = sIf (sem gl F c) (sem gl F a) (sem gl F b) := rfl
@[simp] theorem s_wh_s {c b : T} {p : Pos} : (sem gl F (.wh c b p)).s = sWh (sem gl F c) (sem gl F b) := rfl
@[simp] theorem s_fo_s {t it b : T} {p : Pos} : (sem gl F (.fo t it b p)).s = sFo (sem gl F t) (sem gl F it) (sem gl F b) := rfl
@[simp] theorem s_re_s {x : T} {p : Pos} : (sem gl F (.re x p)).s = sRe (sem gl F x) := rfl
@[simp] theorem s_exs_s {x : T} {p : Pos} : (sem gl F (.exs x p)).s = sEx (sem gl F x) := rfl
@[simp] theorem s_bk_s {p : Pos} : (sem gl F (.bk p)).s = fun e s => .bk e s := rfl
@[simp] theorem s_ct_s {p : Pos} : (sem gl F (.ct p)).s = fun e s => .ct e s := rfl
@[simp] theorem s_ps_s {p : Pos} : (sem gl F (.ps p)).s = fun e s => .nx e s := rfl
@[simp] theorem s_ra_s {p : Pos} {x : Expr} : (sem gl F (.ra p x)).s = fun _ _ => .no := rfl
@[simp] theorem u_c {x : Const} : eC x e s = R.of ((ofC x).map .p) s := rfl
@[simp] theorem ofC_i : ofC (.int i) = some (.int i) := rfl
@[simp] theorem ofC_b {b : Bool} : ofC (.bool b) = some (.bool b) := rfl
@[simp] theorem ofC_n : ofC .none = some .none := rfl
@[simp] theorem ofC_s {x : Str} : ofC (.str x) = some (.str x) := rfl
@[simp] theorem u_v {n : Nat} (h : e[n]? = some (some v)) : eV n e s = .ok v s := by unfold eV; rw [h]
@[simp] theorem u_kv {n : Nat} : kV n v e s = .nx (e.set n (some v)) s := rfl
@[simp] theorem u_tup {a : Sm} : eTup a e s = (a.a e s).bd mkTup := rfl
@[simp] theorem mkTup_ps {xs : List P} (h : xs.length ≤ lim) : mkTup (xs.map .p) s = .ok (.p (.tuple xs)) s := by simp [mkTup, h]
@[simp] theorem mkTup_1 : mkTup [.p x] s = .ok (.p (.tuple [x])) s := mkTup_ps (xs := [x]) (by show _ ≤ 1000000; simp)
@[simp] theorem mkTup_2 : mkTup [.p x, .p y] s = .ok (.p (.tuple [x, y])) s := mkTup_ps (xs := [x, y]) (by show _ ≤ 1000000; simp)
@[simp] theorem mkTup_3 : mkTup [.p x, .p y, .p z] s = .ok (.p (.tuple [x, y, z])) s := mkTup_ps (xs := [x, y, z]) (by show _ ≤ 1000000; simp)
@[simp] theorem u_ktup {n : Nat} {a : Sm} {xs : List P} : kTup n a (.p (.tuple xs)) e s = if xs.length = n then a.ks (xs.map .p) e s else .no := by simp [kTup]
@[simp] theorem u_lst {m : Bool} {a : Sm} : eLst m a e s = (a.a e s).bd (mkLstV m) := rfl
@[simp] theorem mkLstV_ps {xs : List P} (h : xs.length ≤ lim) : mkLstV false (xs.map .p) s = .ok (.p (.list xs)) s := by simp [mkLstV, mkLst, h]
@[simp] theorem mkLstV_nil {m : Bool} : mkLstV m [] s = mkLst m [] s := by simp [mkLstV]
@[simp] theorem mkLst_f {xs : List P} : mkLst false xs s = .ok (.p (.list xs)) s := rfl
@[simp] theorem mkLst_t {xs : List P} : mkLst true xs s = .ok (.r s.length) (s ++ [.lp 0 xs]) := rfl
@[simp] theorem u_ix {a b : Sm} : eIx a b e s = (a.e e s).bd fun o s => (b.e e s).bd fun i s => ixV o i s := rfl
@[simp] theorem ixV_t {xs : List P} : ixV (.p (.tuple xs)) (.p (.int i)) s = R.of ((L2.atI xs i).map .p) s := rfl
@[simp] theorem ixV_l {xs : List P} : ixV (.p (.list xs)) (.p (.int i)) s = R.of ((L2.atI xs i).map .p) s := rfl
theorem ixV_r {n k : Nat} {xs : List P} (h : s[n]? = some (.lp k xs)) : ixV (.r n) (.p (.int i)) s = R.of ((L2.atI xs i).map .p) s := by simp [ixV, h]
@[simp] theorem u_kix {a b : Sm} : kIx a b v e s = (a.e e s).bx fun o s => (b.e e s).bx fun i s => (R.of (setIx o i v s) s).bx fun s' _ => .nx e s' := by
  simp only [kIx]
  congr 1; funext o s; congr 1; funext i s
  cases setIx o i v s <;> rfl
@[simp] theorem u_bin {o : Operator} {a b : Sm} : eBin o a b e s = op2 (binP o) (a.e e s) fun s => b.e e s := rfl
@[simp] theorem u_neg {a : Sm} : eNeg a e s = op1 negP (a.e e s) := rfl
@[simp] theorem negP_i : negP (.int i) = some (.int (-i)) := rfl
@[simp] theorem u_nt {a : Sm} : eNt a e s = (tst (a.e e s)).bd fun b s => .ok (.p (.bool !b)) s := rfl
@[simp] theorem u_cmp {o : CmpOp} {a b : Sm} : eCmp o a b e s = op2 (fun x y => blP (cmpP o x y)) (a.e e s) fun s => b.e e s := rfl
@[simp] theorem u_cm2 {o q : CmpOp} {a b c : Sm} : eCm2 o q a b c e s = (a.e e s).bd fun x s => (b.e e s).bd fun y s => (R.of (lnk o x y s) s).bd fun t s => if t then (c.e e s).bd fun w s => R.of ((blP (lnk q y w s)).map .p) s else .ok (.p (.bool false)) s := by
  simp only [eCm2]
  congr 1; funext x s; congr 1; funext y s
  cases lnk o x y s with
  | none => rfl
  | some t => cases t <;> rfl
@[simp] theorem u_ite {c a b : Sm} : eIte c a b e s = (tst (c.e e s)).bd fun k s => if k then a.e e s else b.e e s := rfl
@[simp] theorem u_bi {f : Bi} {a : Sm} : eBi f a e s = opL (biP f) (a.a e s) := rfl
@[simp] theorem u_isi {ty : Str} {a : Sm} : eIsi ty a e s = op1 (fun x => blP (tyP ty x)) (a.e e s) := rfl
@[simp] theorem u_cal {f : List Vl → Sr → R Vl} {m : Bool} {a : Sm} : eCal f m a e s = (a.a e s).bd fun vs s => callW f m vs s := rfl
@[simp] theorem u_lzp {a : Sm} : eLzp a e s = opL lzpP (a.a e s) := rfl
@[simp] theorem u_lsm {a : Sm} : eLsm a e s = (a.a e s).bd lsmV := rfl
@[simp] theorem u_rpm {a b : Sm} : eRpm a b e s = (a.e e s).bd fun v s => (b.e e s).bd fun w s => rpmV v w s := rfl
@[simp] theorem lsmV_l {xs : List P} : lsmV [.p (.list xs)] s = .ok (.r s.length) (s ++ [.lp 0 xs]) := rfl
@[simp] theorem lsmV_t {xs : List P} : lsmV [.p (.tuple xs)] s = .ok (.r s.length) (s ++ [.lp 0 xs]) := rfl
@[simp] theorem u_lrg {a : Sm} : eLrg a e s = opL lrgP (a.a e s) := rfl
@[simp] theorem u_sb {b : Bool} {a : Sm} : eSb b a e s = op1 (sbP b) (a.e e s) := rfl
@[simp] theorem u_app {o x : Sm} : eApp o x e s = (o.e e s).bd fun o s => if isL o s = true then (x.e e s).bd fun v s => R.of ((appV o v s).map fun _ => Vl.p .none) ((appV o v s).getD s) else .no := rfl
@[simp] theorem u_met {f : Me} {o a : Sm} : eMet f o a e s = (o.e e s).bd fun o s => if isL o s = true then (a.a e s).bd fun vs s => meV f o vs s else .no := rfl
@[simp] theorem u_ipl {x : Sm} : iPl x e s = (x.e e s).bd fun v s => itOf v s := rfl
@[simp] theorem itOf_t {xs : List P} : itOf (.p (.tuple xs)) s = .ok (.inl (xs.map .p)) s := rfl
@[simp] theorem itOf_l {xs : List P} : itOf (.p (.list xs)) s = .ok (.inl (xs.map .p)) s := rfl
theorem itOf_r {n : Nat} (h : isDp s n = false) : itOf (.r n) s = .ok (.inr n) s := if_neg (by rw [h]; simp)
@[simp] theorem itOf_r0 {k : Nat} {xs : List P} : itOf (.r 0) (.lp k xs :: s) = .ok (.inr 0) (.lp k xs :: s) := itOf_r rfl
@[simp] theorem itOf_r1 {o : Ob} {k : Nat} {xs : List P} : itOf (.r 1) (o :: .lp k xs :: s) = .ok (.inr 1) (o :: .lp k xs :: s) := itOf_r rfl
@[simp] theorem u_irg {a : Sm} : iRg a e s = (a.a e s).bd fun vs s => R.of (((ddL vs s).bind rgP).map fun xs => .inl (xs.map .p)) s := rfl
@[simp] theorem u_ien {a : Sm} : iEn a e s = (a.a e s).bd fun vs s => R.of (enV vs) s := rfl
@[simp] theorem enV_t {xs : List P} : enV [.p (.tuple xs)] = some (.inl (enumP 0 xs)) := rfl
@[simp] theorem enV_l {xs : List P} : enV [.p (.list xs)] = some (.inl (enumP 0 xs)) := rfl
@[simp] theorem u_iez {a : Sm} : iEz a e s = (a.a e s).bd fun vs s => R.of (ezV vs) s := rfl
@[simp] theorem ezV_t {xs ys : List P} : ezV [.p (.tuple xs), .p (.tuple ys)] = some (.inl (enumP 0 (zpP xs ys))) := rfl
@[simp] theorem u_izp {a : Sm} : iZp a e s = (a.a e s).bd fun vs s => R.of (zpV vs) s := rfl
@[simp] theorem u_acons {a b : Sm} : aCons a b e s = (a.e e s).bd fun v s => (b.a e s).bd fun vs s => .ok (v :: vs) s := rfl
@[simp] theorem u_kscons {a b : Sm} {vs : List Vl} : ksCons a b (v :: vs) e s = (a.k v e s).th fun e s => b.ks vs e s := rfl
@[simp] theorem u_ksnil : ksNil [] e s = .nx e s := rfl
@[simp] theorem u_bocons {a b : Sm} {k : Bool} : boCons a b k e s = if b.z then a.e e s else orP (a.e e s) (fun s => b.bo k e s) k := rfl
@[simp] theorem u_as {t x : Sm} : sAs t x e s = (x.e e s).bx fun v s => t.k v e s := rfl
@[simp] theorem u_pa {ts es : Sm} : sPa ts es e s = (es.a e s).bx fun vs s => ts.ks vs e s := rfl
@[simp] theorem u_ag {o : Operator} {t x : Sm} : sAg o t x e s = (t.e e s).bx fun v s => (x.e e s).bx fun w s => (R.of (agV o v w s) s).bx fun c s => t.k (.p c) e s := by
  simp only [sAg]
  congr 1; funext v s; congr 1; funext w s
  cases agV o v w s <;> rfl
@[simp] theorem agV_p {o : Operator} : agV o (.p x) (.p y) s = augP o x y := rfl
@[simp] theorem aug_add : augP .Add (.int i) (.int j) = some (.int (i + j)) := rfl
@[simp] theorem aug_sub : augP .Sub (.int i) (.int j) = some (.int (i - j)) := rfl
@[simp] theorem u_if {c a b : Sm} : sIf c a b e s = (tst (c.e e s)).bx fun k s => if k then a.s e s else b.s e s := rfl
@[simp] theorem u_re {x : Sm} : sRe x e s = (x.e e s).bx fun v s => .rt v s := rfl
@[simp] theorem u_ex {x : Sm} : sEx x e s = (x.e e s).bx fun _ s => .nx e s := rfl
@[simp] theorem u_cp {m : Bool} {elt tg it cond : Sm} {own : List Nat} : eCp m elt tg it cond own e s = (it.i e s).bd fun w s => (cpAll tg cond elt (wipeE e own) w s).bd fun xs s => mkLst m xs s := rfl
@[simp] theorem cpAll_l {tg cond elt : Sm} {vs : List Vl} (h : vs.length ≤ lim) : cpAll tg cond elt e (.inl vs) s = cpL tg.k (cnd cond) elt.e e vs s := if_pos h
@[simp] theorem cpAll_r {tg cond elt : Sm} {n : Nat} : cpAll tg cond elt e (.inr n) s = cpR tg.k (cnd cond) elt.e n e bigN 0 s := rfl
@[simp] theorem u_fo {t it b : Sm} : sFo t it b e s = (it.i e s).bx fun w s => match w with
  | .inl vs => forL t.k b.s vs e s
  | .inr n => forR t.k b.s n bigN 0 e s := rfl
theorem at_nat {α : Type} {xs : List α} {n : Nat} (h : n < xs.length) : L2.atI xs (n : Int) = some xs[n] := by
  have e : L2.ixN xs.length (n : Int) = some n := by
    unfold L2.ixN
    rw [if_pos (by omega), if_pos (by omega), Int.toNat_natCast]
  simp [L2.atI, e, h]
@[simp] theorem at_0 {α : Type} {x : α} {r : List α} : L2.atI (x :: r) 0 = some x := at_nat (n := 0) (by simp)
@[simp] theorem at_1 {α : Type} {x y : α} {r : List α} : L2.atI (x :: y :: r) 1 = some y := at_nat (xs := x :: y :: r) (n := 1) (by simp)
@[simp] theorem at_2 {α : Type} {x y z : α} {r : List α} : L2.atI (x :: y :: z :: r) 2 = some z := at_nat (xs := x :: y :: z :: r) (n := 2) (by simp)
theorem sh_i : sh (.int i) = true := by
  unfold sh SeqAt.shaped
  simp [PyData.canLay0, PyData.depth]
theorem sh_tup {ns : List Int} : sh (.tuple (ns.map .int)) = true := by
  have h1 : PyData.canLayAll0 (ns.map .int) = true := by
    induction ns with
    | nil => rfl
    | cons n r ih => simp [PyData.canLayAll0, PyData.canLay0, ih]
  have h2 : PyData.depthAll (ns.map .int) ≤ 1 := by
    induction ns with
    | nil => simp [PyData.depthAll]
    | cons n r ih => 
      have := ih (by
        simp only [List.map_cons, PyData.canLayAll0, Bool.and_eq_true] at h1
        exact h1.2)
      simp only [List.map_cons, PyData.depthAll, PyData.depth]
      omega
  unfold sh SeqAt.shaped
  simp [PyData.canLay0, PyData.depth, h1]
  omega
theorem any_eqv {ns : List Int} : ((ns.map PyData.int).any fun y => PyData.eqv y (.int i)) = decide (i ∈ ns) := by
  induction ns with
  | nil => rfl
  | cons n r ih =>
    rw [List.map_cons, List.any_cons, ih]
    have : PyData.eqv (.int n) (.int i) = decide (n = i) := by
      simp only [PyData.eqv]
      by_cases h : n = i <;> simp [h]
    rw [this, ← Bool.decide_or]
    congr 1
    rw [List.mem_cons]
    exact propext ⟨fun h => h.imp Eq.symm id, fun h => h.imp Eq.symm id⟩
theorem in_tup {ns : List Int} : cmpP .In (.int i) (.tuple (ns.map .int)) = some (decide (i ∈ ns)) := by
  show (if (sh _ && sh _) = true then some (List.any _ _) else none) = _
  rw [sh_i, sh_tup, any_eqv]
  rfl
theorem notin_tup {ns : List Int} : cmpP .NotIn (.int i) (.tuple (ns.map .int)) = some (!decide (i ∈ ns)) := by
  show (if (sh _ && sh _) = true then some (!(List.any _ _)) else none) = _
  rw [sh_i, sh_tup, any_eqv]
  rfl
theorem bools_mapF {α : Type} {g : α → Bool} {l : List α} : bools? (l.map fun x => .bool (g x)) = some (l.map g) := by
  induction l with
  | nil => rfl
  | cons b r ih => simp [bools?, ih]
@[simp] theorem bi_allF {α : Type} {g : α → Bool} {l : List α} : biP .all [.list (l.map fun x => .bool (g x))] = some (.bool (l.all g)) := by
  simp [biP, bools_mapF]
@[simp] theorem bi_anyF {α : Type} {g : α → Bool} {l : List α} : biP .any [.list (l.map fun x => .bool (g x))] = some (.bool (l.any g)) := by
  simp [biP, bools_mapF]
@[simp] theorem cnd_nil : cnd (sem gl F .nil) e s = .ok true s := rfl
/-- a call with plain arguments alone -/
theorem callW_p {f : List Vl → Sr → R Vl} {m : Bool} {xs : List P} {r : P} {l : Sr} (h : f (xs.map .p) [] = .ok (.p r) l) : callW f m (xs.map .p) s = .ok (.p r) s := by
  have e1 : refs (xs.map Vl.p) = [] := by
    induction xs with
    | nil => rfl
    | cons x xs ih => simp [refs]; exact (by
        clear h ih
        induction xs with
        | nil => rfl
        | cons x xs ih => simp [refs, ih])
  have e2 : ∀ l : List Nat, inArgs l (xs.map Vl.p) = xs.map .p := fun l => by
    clear h e1
    induction xs with
    | nil => rfl
    | cons x xs ih => simp [inArgs, ih]
  simp [callW, e1, e2, h, back]
theorem callW_p1 {f : List Vl → Sr → R Vl} {m : Bool} {r : P} {l : Sr} (h : f [.p x] [] = .ok (.p r) l) : callW f m [.p x] s = .ok (.p r) s := callW_p (xs := [x]) h
theorem callW_p2 {f : List Vl → Sr → R Vl} {m : Bool} {r : P} {l : Sr} (h : f [.p x, .p y] [] = .ok (.p r) l) : callW f m [.p x, .p y] s = .ok (.p r) s := callW_p (xs := [x, y]) h
theorem callW_p3 {f : List Vl → Sr → R Vl} {m : Bool} {r : P} {l : Sr} (h : f [.p x, .p y, .p z] [] = .ok (.p r) l) : callW f m [.p x, .p y, .p z] s = .ok (.p r) s := callW_p (xs := [x, y, z]) h
theorem callK_at {gl : List P} {ds : List Df} {k f : Nat} {d : Df} {vs : List Vl} (h : ds[f]? = some d) (hn : vs.length = d.n) : callK gl ds (k + 1) f vs s = endX ((sem gl (callK gl ds k) d.b).s (vs.map some ++ List.replicate (d.m - d.n) none) s) := by
  show (match ds[f]? with | some d => runD d (sem gl (callK gl ds k) d.b).s vs s | none => .no) = _
  rw [h]
  show runD d _ vs s = _
  unfold runD
  rw [if_pos hn]
/-- a loop's turns by an invariant: P i is what holds ahead of the i-th -/
theorem forL_inv {tg : Vl → En → Sr → X} {b : En → Sr → X} (I : Nat → En → Sr → Prop) : ∀ (vs : List Vl) (k : Nat) (e : En) (s : Sr), I k e s →
    (∀ j v e s, vs[j]? = some v → I (k + j) e s → ∃ e1 s1, tg v e s = .nx e1 s1 ∧ ((∃ e2 s2, (b e1 s1 = .nx e2 s2 ∨ b e1 s1 = .ct e2 s2) ∧ I (k + j + 1) e2 s2))) → ∃ e' s', forL tg b vs e s = .nx e' s' ∧ I (k + vs.length) e' s'
  | [], k, e, s, h, _ => ⟨e, s, rfl, h⟩
  | v :: vs, k, e, s, h, st => by
    obtain ⟨e1, s1, h1, e2, s2, h2, h3⟩ := st 0 v e s rfl h
    obtain ⟨e', s', h4, h5⟩ := forL_inv I vs (k + 1) e2 s2 h3 fun j w e s hw hi => by
      have := st (j + 1) w e s hw (by rw [show k + (j + 1) = k + 1 + j by omega]; exact hi)
      rw [show k + (j + 1) + 1 = k + 1 + j + 1 by omega] at this
      exact this
    refine ⟨e', s', ?_, by rw [List.length_cons, show k + (vs.length + 1) = k + 1 + vs.length by omega]; exact h5⟩
    simp only [forL, h1]
    rcases h2 with h2 | h2 <;> rw [h2] <;> exact h4
end
end Mi
end
section
set_option Elab.async false
set_option linter.all false
set_option maxRecDepth 100000
/-! E2: sorted and max of ints and of pairs of ints; comprehensions. -/
namespace Mi
open PySem
abbrev PI2 := Int × Int
def pr (p : PI2) : P := .tuple [.int p.1, .int p.2]
def lt2 (p q : PI2) : Bool := if p.1 = q.1 then decide (p.2 < q.2) else decide (p.1 < q.1)
def le2 (p q : PI2) : Bool := !lt2 q p
theorem le2_iff {p q : PI2} : le2 p q = true ↔ p.1 < q.1 ∨ (p.1 = q.1 ∧ p.2 ≤ q.2) := by
  unfold le2 lt2
  split <;> simp <;> omega
theorem le2_tr (a b c : PI2) (h : le2 a b = true) (h' : le2 b c = true) : le2 a c = true := by
  rw [le2_iff] at *
  omega
theorem le2_tot (a b : PI2) : (le2 a b || le2 b a) = true := by
  rw [Bool.or_eq_true, le2_iff, le2_iff]
  omega
theorem lt_pr (p q : PI2) : W.dataLt (pr p) (pr q) = lt2 p q := (W.DatumOrd.lt_eq p q : _)
theorem le_pr (p q : PI2) : W.dataLe false id (pr p) (pr q) = le2 p q := by
  show (!(W.dataLt (pr q) (pr p))) = _
  rw [lt_pr]
  rfl
theorem al_pr (p q : PI2) : W.alike (pr p) (pr q) = true := W.DatumOrd.alike p q
theorem le_int (a b : Int) : W.dataLe false id (PyData.int a) (PyData.int b) = decide (a ≤ b) := by
  show (!(W.dataLt (.int b) (.int a))) = _
  rw [show W.dataLt (.int b) (.int a) = decide (b < a) from W.DatumOrd.lt_eq b a]
  by_cases h : b < a <;> simp [h] <;> omega
theorem dep_pr (p : PI2) : (pr p).depth ≤ 50 := by
  unfold pr
  simp only [PyData.depth, PyData.depthAll]
  omega
theorem sort_pr (l : List PI2) : sortP (l.map pr) = (l.mergeSort le2).map pr := by
  unfold sortP
  exact (List.map_mergeSort (r := le2) (s := W.dataLe false (id : P → P)) (f := pr) (l := l) fun a _ b _ => (le_pr a b).symm).symm
theorem ok_pr (l : List PI2) : okSort (l.map pr) = true := by
  unfold okSort
  rw [Bool.and_eq_true, Bool.and_eq_true, Bool.or_eq_true]
  refine ⟨⟨?_, .inl ?_⟩, ?_⟩
  · simp only [List.all_map, List.all_eq_true, Function.comp]
    exact fun a _ b _ => al_pr a b
  · simp only [List.all_map, List.all_eq_true, Function.comp]
    exact fun a _ => rfl
  · simp only [List.all_map, List.all_eq_true, Function.comp, decide_eq_true_eq]
    exact fun a _ => dep_pr a
theorem bi_sort2 (l : List PI2) : biP .sorted [.list (l.map pr)] = some (.list ((l.mergeSort le2).map pr)) := by
  show (if okSort _ = true then some (PyData.list (sortP _)) else none) = _
  rw [if_pos (ok_pr l), sort_pr]
theorem sort_int (l : List Int) : sortP (l.map .int) = (l.mergeSort fun a b => decide (a ≤ b)).map .int := by
  unfold sortP
  exact (List.map_mergeSort (r := fun a b => decide (a ≤ b)) (s := W.dataLe false (id : P → P)) (f := PyData.int) (l := l) fun a _ b _ => (le_int a b).symm).symm
theorem ok_int (l : List Int) : okSort (l.map .int) = true := by
  unfold okSort
  rw [Bool.and_eq_true, Bool.and_eq_true, Bool.or_eq_true]
  refine ⟨⟨?_, .inr ?_⟩, ?_⟩
  · simp only [List.all_map, List.all_eq_true, Function.comp]
    exact fun a _ b _ => (W.DatumOrd.alike a b : _)
  · simp only [List.all_map, List.all_eq_true, Function.comp]
    exact fun a _ => rfl
  · simp only [List.all_map, List.all_eq_true, Function.comp, decide_eq_true_eq]
    intro a _
    simp only [PyData.depth]
    omega
theorem bi_sortI (l : List Int) : biP .sorted [.list (l.map .int)] = some (.list ((l.mergeSort fun a b => decide (a ≤ b)).map .int)) := by
  show (if okSort _ = true then some (PyData.list (sortP _)) else none) = _
  rw [if_pos (ok_int l), sort_int]
theorem bi_sortT (l : List Int) : biP .sorted [.tuple (l.map .int)] = some (.list ((l.mergeSort fun a b => decide (a ≤ b)).map .int)) := by
  show (if okSort _ = true then some (PyData.list (sortP _)) else none) = _
  rw [if_pos (ok_int l), sort_int]
def max2 (x : PI2) (xs : List PI2) : PI2 := xs.foldl (fun a y => if lt2 a y then y else a) x
theorem max_pr (x : PI2) (xs : List PI2) : W.maxD (pr x) (xs.map pr) = pr (max2 x xs) := by
  unfold W.maxD max2
  induction xs generalizing x with
  | nil => rfl
  | cons y ys ih =>
    rw [List.map_cons, List.foldl_cons, List.foldl_cons, ← ih, lt_pr]
    cases lt2 x y <;> rfl
theorem ints_pr (x : PI2) (xs : List PI2) : ints? ((x :: xs).map pr) = none := rfl
theorem okMx_pr (l : List PI2) : okMx (l.map pr) = true := by
  unfold okMx
  rw [Bool.and_eq_true]
  refine ⟨?_, ?_⟩
  · simp only [List.all_map, List.all_eq_true, Function.comp]
    exact fun a _ b _ => al_pr a b
  · simp only [List.all_map, List.all_eq_true, Function.comp]
    intro a _
    rw [Bool.and_eq_true]
    exact ⟨rfl, by simpa using dep_pr a⟩
theorem bi_maxPr (x : PI2) (xs : List PI2) : biP .max [.list ((x :: xs).map pr)] = some (pr (max2 x xs)) := by
  have h := okMx_pr (x :: xs)
  rw [List.map_cons] at h ⊢
  show (if okMx (pr x :: xs.map pr) = true then some (W.maxD (pr x) (xs.map pr)) else none) = _
  rw [if_pos h, max_pr]
/-- the greatest, once none is twice -/
theorem max2_mem (x : PI2) (xs : List PI2) : max2 x xs ∈ x :: xs ∧ ∀ y ∈ x :: xs, le2 y (max2 x xs) = true := by
  unfold max2
  induction xs generalizing x with
  | nil => simp [le2_iff]
  | cons y ys ih =>
    rw [List.foldl_cons]
    obtain ⟨h1, h2⟩ := ih (if lt2 x y = true then y else x)
    have hx : le2 x (if lt2 x y = true then y else x) = true := by
      cases q : lt2 x y with
      | false => rw [if_neg (by simp), le2_iff]; omega
      | true =>
        rw [if_pos rfl, le2_iff]
        unfold lt2 at q
        split at q <;> simp at q <;> omega
    have hy : le2 y (if lt2 x y = true then y else x) = true := by
      cases q : lt2 x y with
      | false => rw [if_neg (by simp)]; unfold le2; rw [q]; rfl
      | true => rw [if_pos rfl, le2_iff]; omega
    have h3 := h2 _ List.mem_cons_self
    refine ⟨?_, fun z hz => ?_⟩
    · rcases List.mem_cons.mp h1 with h | h
      · rw [h]; split <;> simp
      · simp [h]
    · rcases List.mem_cons.mp hz with rfl | hz
      · exact le2_tr _ _ _ hx h3
      · rcases List.mem_cons.mp hz with rfl | hz
        · exact le2_tr _ _ _ hy h3
        · exact h2 z (List.mem_cons_of_mem _ hz)
/-! ### comprehensions -/
section
variable {tg : Vl → En → Sr → X} {cond : En → Sr → R Bool} {elt : En → Sr → R Vl} {e : En} {s : Sr}
theorem cpL_fm (g : Vl → Option P) : ∀ (vs : List Vl), (∀ v ∈ vs, ∃ e', tg v e s = .nx e' s ∧ ((g v = none ∧ cond e' s = .ok false s) ∨ ∃ y, g v = some y ∧ cond e' s = .ok true s ∧ elt e' s = .ok (.p y) s)) →
    cpL tg cond elt e vs s = .ok (vs.filterMap g) s
  | [], _ => rfl
  | v :: vs, h => by
    obtain ⟨e', h1, h2⟩ := h v List.mem_cons_self
    have ih := cpL_fm g vs fun w hw => h w (List.mem_cons_of_mem _ hw)
    rcases h2 with ⟨g1, h2⟩ | ⟨y, g1, h2, h3⟩
    · simp only [cpL, h1, h2, ih, List.filterMap_cons, g1]
    · simp only [cpL, h1, h2, h3, toP_p, ih, List.filterMap_cons, g1]
theorem cpL_map (f : Vl → P) (vs : List Vl) (h : ∀ v ∈ vs, ∃ e', tg v e s = .nx e' s ∧ cond e' s = .ok true s ∧ elt e' s = .ok (.p (f v)) s) :
    cpL tg cond elt e vs s = .ok (vs.map f) s := by
  have := cpL_fm (tg := tg) (cond := cond) (elt := elt) (e := e) (s := s) (fun v => some (f v)) vs fun v hv => by
    obtain ⟨e', h1, h2, h3⟩ := h v hv
    exact ⟨e', h1, .inr ⟨_, rfl, h2, h3⟩⟩
  rw [this]
  congr 1
  induction vs with
  | nil => rfl
  | cons v vs ih => simp
/-- with a store that goes on -/
theorem cpL_st (I : Nat → Sr → Prop) (Q : P → Prop) : ∀ (vs : List Vl) (k : Nat) (s : Sr), I k s → (∀ j v s, vs[j]? = some v → I (k + j) s → ∃ e', tg v e s = .nx e' s ∧ cond e' s = .ok true s ∧ ∃ y s', elt e' s = .ok (.p y) s' ∧ Q y ∧ I (k + j + 1) s') →
    ∃ ys s', cpL tg cond elt e vs s = .ok ys s' ∧ ys.length = vs.length ∧ (∀ y ∈ ys, Q y) ∧ I (k + vs.length) s'
  | [], k, s, h, _ => ⟨[], s, rfl, rfl, by simp, h⟩
  | v :: vs, k, s, h, st => by
    obtain ⟨e', h1, h2, y, s1, h3, h4, h5⟩ := st 0 v s rfl h
    obtain ⟨ys, s', h6, h7, h8, h9⟩ := cpL_st I Q vs (k + 1) s1 h5 fun j w s hw hi => by
      have := st (j + 1) w s hw (by rw [show k + (j + 1) = k + 1 + j by omega]; exact hi)
      rw [show k + (j + 1) + 1 = k + 1 + j + 1 by omega] at this
      exact this
    refine ⟨y :: ys, s', by simp only [cpL, h1, h2, h3, toP_p, h6], by simp [h7], fun z hz => ?_, by rw [List.length_cons, show k + (vs.length + 1) = k + 1 + vs.length by omega]; exact h9⟩
    rcases List.mem_cons.mp hz with rfl | hz
    · exact h4
    · exact h8 z hz
end
theorem enumP_eq : ∀ (k : Nat) (xs : List P), enumP k xs = (xs.zipIdx k).map fun q => .p (.tuple [.int (q.2 : Nat), q.1])
  | _, [] => rfl
  | k, x :: xs => by simp [enumP, List.zipIdx_cons, enumP_eq (k + 1) xs]
/-! ### loops as steps -/
def runS {A S : Type} (step : S → A → S ⊕ X) : S → List A → S ⊕ X
  | σ, [] => .inl σ
  | σ, a :: as => match step σ a with
    | .inl σ' => runS step σ' as
    | .inr x => .inr x
/-- what a turn does -/
def Does {S : Type} (E : S → En) (Z : S → Sr) (x : X) : S ⊕ X → Prop
  | .inl σ => x = .nx (E σ) (Z σ) ∨ x = .ct (E σ) (Z σ)
  | .inr (.rt v s) => x = .rt v s
  | .inr (.nx e s) => x = .bk e s
  | _ => False
theorem forL_run {A S : Type} {tg : Vl → En → Sr → X} {b : En → Sr → X} (mk : A → Vl) (E : S → En) (Z : S → Sr) (step : S → A → S ⊕ X) (J : S → Prop) : ∀ (as : List A) (vs : List Vl) (e : En) (s : Sr) (σ : S), vs = as.map mk → e = E σ → s = Z σ → J σ →
    (∀ σ a, J σ → a ∈ as → (∃ e1 s1, tg (mk a) (E σ) (Z σ) = .nx e1 s1 ∧ Does E Z (b e1 s1) (step σ a)) ∧ ∀ σ', step σ a = .inl σ' → J σ') →
    forL tg b vs e s = match runS step σ as with
      | .inl σ' => .nx (E σ') (Z σ')
      | .inr x => x
  | [], _, _, _, σ, rfl, rfl, rfl, _, _ => rfl
  | a :: as, _, _, _, σ, rfl, rfl, rfl, hJ, h => by
    obtain ⟨⟨e1, s1, h1, h2⟩, h3⟩ := h σ a hJ List.mem_cons_self
    simp only [List.map_cons, forL, h1, runS]
    cases q : step σ a with
    | inl σ' =>
      rw [q] at h2
      have ih := forL_run (tg := tg) (b := b) mk E Z step J as _ _ _ σ' rfl rfl rfl (h3 σ' q) fun τ c hτ hc => h τ c hτ (List.mem_cons_of_mem _ hc)
      rcases h2 with h2 | h2 <;> rw [h2] <;> exact ih
    | inr x =>
      rw [q] at h2
      cases x with
      | rt v s => simp only [Does] at h2; rw [h2]
      | nx e s => simp only [Does] at h2; rw [h2]
      | _ => exact h2.elim
theorem forL_at {A S : Type} {tg : Vl → En → Sr → X} {b : En → Sr → X} (mk : A → Vl) (E : S → En) (Z : S → Sr) (step : S → A → S ⊕ X) (J : Nat → S → Prop) (as : List A) : ∀ (bs : List A) (n : Nat) (vs : List Vl) (e : En) (s : Sr) (σ : S), vs = bs.map mk → e = E σ → s = Z σ → J n σ → as.drop n = bs →
    (∀ i σ a, J i σ → as[i]? = some a → (∃ e1 s1, tg (mk a) (E σ) (Z σ) = .nx e1 s1 ∧ Does E Z (b e1 s1) (step σ a)) ∧ ∀ σ', step σ a = .inl σ' → J (i + 1) σ') →
    (∃ σ', runS step σ bs = .inl σ' ∧ forL tg b vs e s = .nx (E σ') (Z σ') ∧ J (n + bs.length) σ') ∨ ∃ x, runS step σ bs = .inr x ∧ forL tg b vs e s = x
  | [], n, _, _, _, σ, rfl, rfl, rfl, hJ, _, _ => .inl ⟨σ, rfl, rfl, hJ⟩
  | a :: bs, n, _, _, _, σ, rfl, rfl, rfl, hJ, hd, h => by
    have ha : as[n]? = some a := by
      have := congrArg (·[0]?) hd
      simpa using this
    have hd' : as.drop (n + 1) = bs := by
      have := congrArg (List.drop 1) hd
      simpa using this
    obtain ⟨⟨e1, s1, h1, h2⟩, h3⟩ := h n σ a hJ ha
    simp only [List.map_cons, forL, h1, runS]
    cases q : step σ a with
    | inl σ' =>
      rw [q] at h2
      have ih := forL_at (tg := tg) (b := b) mk E Z step J as bs (n + 1) _ _ _ σ' rfl rfl rfl (h3 σ' q) hd' h
      rw [show n + 1 + bs.length = n + (a :: bs).length by simp; omega] at ih
      rcases h2 with h2 | h2 <;> rw [h2] <;> exact ih
    | inr x =>
      rw [q] at h2
      refine .inr ⟨x, rfl, ?_⟩
      cases x with
      | rt v s => simp only [Does] at h2; rw [h2]
      | nx e s => simp only [Does] at h2; rw [h2]
      | _ => exact h2.elim
/-- a loop that nothing leaves: a fold -/
theorem forL_fold {A S : Type} {tg : Vl → En → Sr → X} {b : En → Sr → X} (mk : A → Vl) (E : S → En) (Z : S → Sr) (f : S → A → S) (J : Nat → S → Prop) (as : List A) {vs : List Vl} {e : En} {s : Sr} (σ : S) (h1 : vs = as.map mk) (h2 : e = E σ) (h3 : s = Z σ) (h4 : J 0 σ)
    (h : ∀ i σ a, J i σ → as[i]? = some a → (∃ e1 s1, tg (mk a) (E σ) (Z σ) = .nx e1 s1 ∧ (b e1 s1 = .nx (E (f σ a)) (Z (f σ a)) ∨ b e1 s1 = .ct (E (f σ a)) (Z (f σ a)))) ∧ J (i + 1) (f σ a)) :
    forL tg b vs e s = .nx (E (as.foldl f σ)) (Z (as.foldl f σ)) ∧ J as.length (as.foldl f σ) := by
  have run : ∀ (bs : List A) (σ : S), runS (fun σ a => .inl (f σ a)) σ bs = .inl (bs.foldl f σ) := fun bs => by
    induction bs with
    | nil => intro σ; rfl
    | cons b bs ih => intro σ; exact ih _
  have := forL_at (tg := tg) (b := b) mk E Z (fun σ a => .inl (f σ a)) J as as 0 vs e s σ h1 h2 h3 h4 rfl fun i σ a hJ ha => by
    obtain ⟨q1, q2⟩ := h i σ a hJ ha
    exact ⟨q1, fun σ' e => by cases e; exact q2⟩
  rw [run] at this
  rcases this with ⟨σ', e1, e2, e3⟩ | ⟨x, e1, _⟩
  · cases e1
    rw [Nat.zero_add] at e3
    exact ⟨e2, e3⟩
  · cases e1
section
variable {tg : Vl → En → Sr → X} {cond : En → Sr → R Bool} {elt : En → Sr → R Vl} {e : En} {s : Sr}
theorem cpR_go (f : P → P) {n z : Nat} {xs : List P} (hx : s[n]? = some (.lp z xs)) (h : ∀ x ∈ xs, ∃ e', tg (.p x) e s = .nx e' s ∧ cond e' s = .ok true s ∧ elt e' s = .ok (.p (f x)) s) : ∀ (fuel i : Nat), xs.length < fuel + i →
    cpR tg cond elt n e fuel i s = .ok ((xs.drop i).map f) s ∨ fuel = 0
  | 0, i, _ => .inr rfl
  | fuel + 1, i, hf => by
    refine .inl ?_
    unfold cpR
    simp only [hx]
    by_cases hi : i < xs.length
    · obtain ⟨e', h1, h2, h3⟩ := h xs[i] (List.getElem_mem hi)
      have e1 : xs[i]? = some xs[i] := List.getElem?_eq_getElem hi
      rcases cpR_go f hx h fuel (i + 1) (by omega) with ih | rfl
      · simp only [e1, h1, h2, h3, toP_p, ih]
        rw [List.drop_eq_getElem_cons hi]
        rfl
      · omega
    · have e1 : xs[i]? = none := List.getElem?_eq_none (by omega)
      simp only [e1]
      rw [List.drop_of_length_le (by omega)]
      rfl
theorem cpR_map (f : P → P) {n z : Nat} {xs : List P} (hx : s[n]? = some (.lp z xs)) (hl : xs.length < bigN) (h : ∀ x ∈ xs, ∃ e', tg (.p x) e s = .nx e' s ∧ cond e' s = .ok true s ∧ elt e' s = .ok (.p (f x)) s) :
    cpR tg cond elt n e bigN 0 s = .ok (xs.map f) s := by
  rcases cpR_go f hx h bigN 0 (by omega) with h | h
  · simpa using h
  · cases h
end
theorem app_lp {n : Nat} {xs : List P} {x : P} {s : Sr} (hx : s[n]? = some (.lp 0 xs)) (hl : xs.length < lim) : appV (.r n) (.p x) s = some (s.set n (.lp 0 (xs ++ [x]))) := by
  simp [appV, hx, hl]
theorem set_lp {n : Nat} {xs : List P} {i : Int} {j : Nat} {x : P} {s : Sr} (hx : s[n]? = some (.lp 0 xs)) (hj : L2.ixN xs.length i = some j) : setIx (.r n) (.p (.int i)) (.p x) s = some (s.set n (.lp 0 (xs.set j x))) := by
  simp [setIx, hx, hj]
/-! ### slices -/
@[simp] theorem u_sl {a lo hi : Sm} {e : En} {s : Sr} : eSl a lo hi e s = (a.e e s).bd fun o s => (eOpt lo e s).bd fun l s => (eOpt hi e s).bd fun h s => R.of (((dd o s).bind fun x => slP x l h).map .p) s := rfl
@[simp] theorem opt_nil {gl : List P} {F : Nat → List Vl → Sr → R Vl} {e : En} {s : Sr} : eOpt (sem gl F .nil) e s = .ok none s := rfl
@[simp] theorem opt_pl {gl : List P} {F : Nat → List Vl → Sr → R Vl} {x : T} {e : En} {s : Sr} : eOpt (sem gl F (.pl x)) e s = oneInt ((sem gl F x).e e s) := rfl
@[simp] theorem oneInt_ok {i : Int} {s : Sr} : oneInt (.ok (.p (.int i)) s) = .ok (some i) s := rfl
@[simp] theorem slP_l {xs : List P} {l h : Option Int} : slP (.list xs) l h = some (.list (cut xs l h)) := rfl
@[simp] theorem slP_t {xs : List P} {l h : Option Int} : slP (.tuple xs) l h = some (.tuple (cut xs l h)) := rfl
theorem six_nat (n d k : Nat) : HT.sIx n d (some (k : Int)) = min k n := by
  show (if (k : Int) < 0 then ((k : Int) + (n : Int)).toNat else min (k : Int).toNat n) = min k n
  rw [if_neg (by omega), Int.toNat_natCast]
theorem six_none (n d : Nat) : HT.sIx n d none = d := rfl
theorem cut_take {α : Type} (xs : List α) (n : Nat) : cut xs none (some (n : Int)) = xs.take n := by
  unfold cut
  rw [six_nat, six_none, List.drop_zero, Nat.sub_zero]
  by_cases h : n ≤ xs.length
  · rw [Nat.min_eq_left h]
  · rw [Nat.min_eq_right (by omega), List.take_length, List.take_of_length_le (by omega)]
theorem cut_drop {α : Type} (xs : List α) (n : Nat) : cut xs (some (n : Int)) none = xs.drop n := by
  unfold cut
  rw [six_nat, six_none]
  by_cases h : n ≤ xs.length
  · rw [Nat.min_eq_left h, List.take_of_length_le (by simp)]
  · rw [Nat.min_eq_right (by omega), List.drop_of_length_le (Nat.le_refl _), List.drop_of_length_le (by omega : xs.length ≤ n)]
    simp
end Mi
end
section
set_option linter.all false
set_option maxRecDepth 100000
set_option maxHeartbeats 1000000
/-! E3: draws' pots, calls with things of the store, while loops, written-out helps. -/
namespace Mi
open PySem
/-! the draws' pot -/
structure Pot where
  a : Int
  b : Int
  c : Int
def Pot.o (p : Pot) : Ob := .lp 0 [.int p.a, .int p.b, .int p.c]
structure Gp (N : Nat) (p : Pot) : Prop where
  a0 : 0 ≤ p.a
  b0 : 0 ≤ p.b
  b1 : p.b < 2305843009213693951
  c0 : 0 ≤ p.c
  c1 : p.c ≤ N
theorem muL_ok {i j : Int} (h : 0 ≤ i ∧ i < 18446744073709551616) : binP .Mult (.int i) (.int j) = some (.int (i * j)) := b_mul (.inl (by omega))
theorem mul_okr {i j : Int} (h : 0 ≤ j ∧ j < 18446744073709551616) : binP .Mult (.int i) (.int j) = some (.int (i * j)) := b_mul (.inr (.inl (by omega)))
theorem div_ok {i j : Int} (h : 0 < j ∧ j < 1073741824) : binP .FloorDiv (.int i) (.int j) = some (.int (i / j)) := b_div (.inl h)
theorem pow_ok {i j : Int} (h : 0 ≤ i ∧ i < 18446744073709551616) (hj : 0 ≤ j ∧ j ≤ 1000000) : binP .Pow (.int i) (.int j) = some (.int (i ^ j.toNat)) := b_pow ⟨hj.1, .inl ⟨by omega, hj.2⟩⟩
theorem ixV_r0 {i : Int} {k : Nat} {xs : List P} {s : Sr} : ixV (.r 0) (.p (.int i)) (.lp k xs :: s) = R.of ((L2.atI xs i).map .p) (.lp k xs :: s) := ixV_r rfl
/-! parts of trees -/
def sti : T → Nat → T
  | .cons a _, 0 => a
  | .cons _ b, n + 1 => sti b n
  | t, _ => t
def tlT : T → T
  | .cons _ b => b
  | t => t
def drT : T → Nat → T
  | t, 0 => t
  | .cons _ b, n + 1 => drT b n
  | t, _ => t
def thn : T → T
  | .iff _ a _ _ => a
  | t => t
def fob : T → T
  | .fo _ _ b _ => b
  | t => t
def fot : T → T
  | .fo t _ _ _ => t
  | t => t
def whb : T → T
  | .wh _ b _ => b
  | t => t
def whc : T → T
  | .wh c _ _ => c
  | t => t
def rex : T → T
  | .re x _ => x
  | t => t
def asx : T → T
  | .as _ x _ => x
  | t => t
theorem sq {t : T} (i : Nat) (gl : List P) (F : Nat → List Vl → Sr → R Vl) (e : En) (s : Sr) (h : drT t i = .cons (sti t i) (drT t (i + 1))) : (sem gl F (drT t i)).s e s = ((sem gl F (sti t i)).s e s).th (sem gl F (drT t (i + 1))).s := by
  rw [h]; rfl
/-! calls with things of the store -/
theorem callW_r1 {f : List Vl → Sr → R Vl} {m : Bool} {n : Nat} {o o' : Ob} {y : P} {s t : Sr} (h : s[n]? = some o) (ho : plainOb o = true) (hF : f [.r 0] [o] = .ok (.p y) (o' :: t)) : callW f m [.r n] s = .ok (.p y) (s.set n o') := by
  simp [callW, refs, inArgs, h, ho, hF, back]
theorem callW_r2 {f : List Vl → Sr → R Vl} {m : Bool} {n : Nat} {o o' : Ob} {x y : P} {s t : Sr} (h : s[n]? = some o) (ho : plainOb o = true) (hF : f [.r 0, .p x] [o] = .ok (.p y) (o' :: t)) : callW f m [.r n, .p x] s = .ok (.p y) (s.set n o') := by
  simp [callW, refs, inArgs, h, ho, hF, back]
/-- a new dict handed out -/
theorem callW_pd {f : List Vl → Sr → R Vl} {m : Bool} {xs : List P} {s t : Sr} {j : Nat} {kvs : List (P × P)} (hF : f (xs.map .p) [] = .ok (.r j) t) (hj : t[j]? = some (.dp 0 kvs)) : callW f m (xs.map .p) s = .ok (.r s.length) (s ++ [.dp 0 kvs]) := by
  have e1 : refs (xs.map Vl.p) = [] := by
    clear hF
    induction xs with
    | nil => rfl
    | cons x xs ih => simpa [refs] using ih
  have e2 : ∀ l : List Nat, inArgs l (xs.map Vl.p) = xs.map .p := fun l => by
    clear hF e1
    induction xs with
    | nil => rfl
    | cons x xs ih => simp [inArgs, ih]
  simp [callW, e1, e2, hF, hj, back]
theorem plain_o (p : Pot) : plainOb p.o = true := rfl
theorem Gp.le {N M : Nat} {p : Pot} (h : Gp N p) (hl : N ≤ M) : Gp M p := ⟨h.a0, h.b0, h.b1, h.c0, by have := h.c1; omega⟩
/-! ranges -/
theorem rng_eq : ∀ (n : Nat) (lo : Int), rng lo 1 n = (List.range n).map fun j => PyData.int (lo + (j : Nat))
  | 0, _ => rfl
  | n + 1, lo => by
    rw [rng, rng_eq n (lo + 1), List.range_succ_eq_map, List.map_cons, List.map_map]
    congr 1
    · simp
    · refine List.map_congr_left fun j _ => ?_
      show PyData.int _ = .int _
      congr 1
      push_cast
      omega
theorem rng_ln : ∀ (n : Nat) (lo : Int), (rng lo 1 n).length = n
  | 0, _ => rfl
  | n + 1, lo => by simp [rng, rng_ln n]
theorem rgP_1 (n : Nat) (h : n ≤ 1000000) : rgP [.int (n : Int)] = some (rng 0 1 n) := by
  simp [rgP]
  unfold Sm62; omega
theorem rgP_2 (a b : Int) (h : -1000000 ≤ a ∧ a ≤ 1000000000) (h2 : -1000000 ≤ b ∧ b ≤ 1000000000) : rgP [.int a, .int b] = some (rng a 1 (b - a).toNat) := by
  simp [rgP]
  unfold Sm62; omega
theorem lrgP_1 (n : Nat) (h : n ≤ 1000000) : lrgP [.int (n : Int)] = some (.list (rng 0 1 n)) := by
  simp [lrgP, rgP_1 n h, rng_ln]
  unfold lim; omega
/-! texts and truth values compared -/
theorem neb (a b : Bool) : cmpP .NotEq (.bool a) (.bool b) = some (a != b) := by
  have sb : ∀ c, sh (.bool c) = true := fun c => by
    unfold sh SeqAt.shaped
    simp [PyData.canLay0, PyData.depth]
  simp only [cmpP, sb, Bool.and_self, if_true]
  cases a <;> cases b <;> simp [PyData.eqv]
theorem addT {xs ys : List P} (h : xs.length + ys.length ≤ lim) : binP .Add (.tuple xs) (.tuple ys) = some (.tuple (xs ++ ys)) := if_pos h
theorem nats_int (js : List Nat) : js.map (fun j => PyData.int (j : Nat)) = (js.map fun j : Nat => (j : Int)).map .int := by simp [Function.comp_def]
@[simp] theorem mkTup_nil {s : Sr} : mkTup [] s = .ok (.p (.tuple [])) s := mkTup_ps (xs := []) (by decide)
/-! dicts -/
theorem key_i {i : Int} : key? (.p (.int i)) = some (.int i) := rfl
theorem dat_at {n z : Nat} {kvs : List (P × P)} {s : Sr} (h : s[n]? = some (.dp z kvs)) : dat (.r n) s = some kvs := by simp [dat, h]
theorem dat0_at {n : Nat} {kvs : List (P × P)} {s : Sr} (h : s[n]? = some (.dp 0 kvs)) : dat0 (.r n) s = true := by simp [dat0, h]
theorem dixV_at {n z : Nat} {kvs : List (P × P)} {s : Sr} {i : Int} (h : s[n]? = some (.dp z kvs)) : dixV (.r n) (.p (.int i)) s = dget kvs (.int i) := by simp [dixV, dat_at h, key_i]
theorem dinV_at {n z : Nat} {kvs : List (P × P)} {s : Sr} {i : Int} {b : Bool} (h : s[n]? = some (.dp z kvs)) : dinV b (.p (.int i)) (.r n) s = some ((dget kvs (.int i)).isSome != b) := by simp [dinV, dat_at h, key_i]
theorem dputV_at {n : Nat} {kvs : List (P × P)} {s : Sr} {i : Int} {x : P} (h : s[n]? = some (.dp 0 kvs)) (hl : kvs.length < lim) : dputV (.r n) (.p (.int i)) (.p x) s = some (s.set n (.dp 0 (dput kvs (.int i) x))) := by simp [dputV, key_i, h, hl]
theorem wkV_0 {b : Bool} {n : Nat} {kvs : List (P × P)} {s : Sr} (h : s[n]? = some (.dp 0 kvs)) : wkV b (.r n) s = .ok (.inl (wkL b kvs)) (s.set n (.dp 1 kvs)) := by simp [wkV, h]
theorem wkV_1 {b : Bool} {n k : Nat} {kvs : List (P × P)} {s : Sr} (h : s[n]? = some (.dp (k + 1) kvs)) : wkV b (.r n) s = .ok (.inl (wkL b kvs)) s := by simp [wkV, h]
/-- a dict with ints as keys -/
def dkv {α : Type} (f : α → P) (l : List (Int × α)) : List (P × P) := l.map fun q => (.int q.1, f q.2)
def lk {α : Type} (l : List (Int × α)) (k : Int) : Option α := (l.find? fun q => decide (q.1 = k)).map (·.2)
theorem dget_dkv {α : Type} {f : α → P} {l : List (Int × α)} {k : Int} : dget (dkv f l) (.int k) = (lk l k).map f := by
  unfold dget dkv lk
  induction l with
  | nil => rfl
  | cons q r ih =>
    rw [List.map_cons, List.find?_cons, List.find?_cons]
    by_cases h : q.1 = k
    · simp [dkEq, h]
    · simp only [dkEq, h, decide_false]
      exact ih
theorem dput_new {α : Type} {f : α → P} {l : List (Int × α)} {k : Int} {x : α} (h : lk l k = none) : dput (dkv f l) (.int k) (f x) = dkv f (l ++ [(k, x)]) := by
  unfold dput
  rw [dget_dkv, h]
  simp [dkv]
/-- setdefault -/
def sdl {α : Type} (l : List (Int × α)) (k : Int) (x : α) : List (Int × α) := match lk l k with
  | some _ => l
  | none => l ++ [(k, x)]
theorem sdV_at {α : Type} {f : α → P} {n : Nat} {l : List (Int × α)} {s : Sr} {k : Int} {x : α} (h : s[n]? = some (.dp 0 (dkv f l))) (hl : l.length < lim) : ∃ y, sdV (.r n) (.p (.int k)) (.p (f x)) s = .ok (.p y) (s.set n (.dp 0 (dkv f (sdl l k x)))) := by
  have hl' : (dkv f l).length < lim := by simpa [dkv] using hl
  have e1 : s.set n (.dp 0 (dkv f l)) = s := by
    have := List.getElem?_eq_some_iff.mp h
    obtain ⟨hn, e⟩ := this
    rw [← e]
    exact List.set_getElem_self hn
  unfold sdV sdl
  dsimp only
  rw [dputV_at h hl', dixV_at h, dget_dkv]
  cases q : lk l k with
  | none => exact ⟨f x, by simp only [Option.map_none, dput_new q]⟩
  | some y => exact ⟨f y, by simp only [Option.map_some, e1]⟩
theorem sdl_len {α : Type} (l : List (Int × α)) (k : Int) (x : α) : (sdl l k x).length ≤ l.length + 1 := by
  unfold sdl
  split <;> simp
/-! while -/
theorem whN_mono {c : En → Sr → R Bool} {b : En → Sr → X} : ∀ (n m : Nat) (e : En) (s : Sr), n ≤ m → whN c b n e s ≠ .no → whN c b m e s = whN c b n e s
  | 0, _, _, _, _, h => absurd rfl h
  | n + 1, 0, _, _, hl, _ => by omega
  | n + 1, m + 1, e, s, hl, h => by
    have ih := fun e s => whN_mono (c := c) (b := b) n m e s (by omega)
    unfold whN at h ⊢
    cases q : c e s with
    | ok t s1 =>
      rw [q] at h
      cases t with
      | false => rfl
      | true =>
        dsimp only at h ⊢
        cases q2 : b e s1 with
        | nx e2 s2 => rw [q2] at h; exact ih _ _ h
        | ct e2 s2 => rw [q2] at h; exact ih _ _ h
        | _ => rfl
    | ex => rfl
    | no => rfl
theorem whC_of {c : En → Sr → R Bool} {b : En → Sr → X} {n : Nat} {e : En} {s : Sr} (h : whN c b n e s ≠ .no) : whC c b e s = whN c b n e s := by
  have hx : ∃ n, whN c b n e s ≠ .no := ⟨n, h⟩
  unfold whC
  rw [dif_pos hx]
  have h2 := hx.choose_spec
  generalize hx.choose = m at h2
  by_cases q : n ≤ m
  · exact whN_mono n m e s q h
  · exact (whN_mono m n e s (by omega) h2).symm
/-- a while loop by a measure -/
theorem whC_run {S : Type} {c : En → Sr → R Bool} {b : En → Sr → X} (E : S → En) (Z : S → Sr) (t : S → Bool) (f : S → S) (J : S → Prop) (μ : S → Nat) (hc : ∀ σ, J σ → c (E σ) (Z σ) = .ok (t σ) (Z σ))
    (hb : ∀ σ, J σ → t σ = true → b (E σ) (Z σ) = .nx (E (f σ)) (Z (f σ)) ∧ J (f σ) ∧ μ (f σ) < μ σ) (σ : S) (h : J σ) : ∃ σ', whC c b (E σ) (Z σ) = .nx (E σ') (Z σ') ∧ J σ' ∧ t σ' = false := by
  have key : ∀ (n : Nat) (σ : S), μ σ < n → J σ → ∃ σ', whN c b n (E σ) (Z σ) = .nx (E σ') (Z σ') ∧ J σ' ∧ t σ' = false := by
    intro n
    induction n with
    | zero => intro σ h; omega
    | succ n ih =>
      intro σ hm hJ
      unfold whN
      rw [hc σ hJ]
      cases q : t σ with
      | false => exact ⟨σ, rfl, hJ, q⟩
      | true =>
        obtain ⟨h1, h2, h3⟩ := hb σ hJ q
        dsimp only
        rw [h1]
        exact ih (f σ) (by omega) h2
  obtain ⟨σ', h1, h2, h3⟩ := key (μ σ + 1) σ (by omega) h
  exact ⟨σ', by rw [whC_of (n := μ σ + 1) (by rw [h1]; simp), h1], h2, h3⟩
@[simp] theorem u_wh {c b : Sm} {e : En} {s : Sr} : sWh c b e s = whC (fun e s => tst (c.e e s)) b.s e s := rfl
def foi : T → T
  | .fo _ x _ _ => x
  | t => t
def ifc : T → T
  | .iff c _ _ _ => c
  | t => t
def els : T → T
  | .iff _ _ b _ => b
  | t => t
theorem fo_at {gl : List P} {F : Nat → List Vl → Sr → R Vl} {t : T} {e : En} {s s' : Sr} {vs : List Vl} (h : ∃ a b c d, t = .fo a b c d) (hi : (sem gl F (foi t)).i e s = .ok (.inl vs) s') : (sem gl F t).s e s = forL (sem gl F (fot t)).k (sem gl F (fob t)).s vs e s' := by
  obtain ⟨a, b, c, d, rfl⟩ := h
  simp only [foi] at hi
  simp only [s_fo_s, u_fo, hi, bx_ok, fot, fob]
theorem if_at {gl : List P} {F : Nat → List Vl → Sr → R Vl} {t : T} {e : En} {s s' : Sr} (h : ∃ a b c d, t = .iff a b c d) (hc : tst ((sem gl F (ifc t)).e e s) = .ok true s') : (sem gl F t).s e s = (sem gl F (thn t)).s e s' := by
  obtain ⟨a, b, c, d, rfl⟩ := h
  simp only [ifc] at hc
  simp [hc, thn]
theorem el_at {gl : List P} {F : Nat → List Vl → Sr → R Vl} {t : T} {e : En} {s s' : Sr} (h : ∃ a b c d, t = .iff a b c d) (hc : tst ((sem gl F (ifc t)).e e s) = .ok false s') : (sem gl F t).s e s = (sem gl F (els t)).s e s' := by
  obtain ⟨a, b, c, d, rfl⟩ := h
  simp only [ifc] at hc
  simp [hc, els]
theorem th_id (x : X) : x.th (fun e s => X.nx e s) = x := by cases x <;> rfl
theorem forL_ret {tg : Vl → En → Sr → X} {b : En → Sr → X} (I : Nat → En → Sr → Prop) (Q : Vl → Sr → Prop) : ∀ (vs : List Vl) (k : Nat) (e : En) (s : Sr), I k e s →
    (∀ j v e s, vs[j]? = some v → I (k + j) e s → ∃ e1 s1, tg v e s = .nx e1 s1 ∧ ((∃ e2 s2, b e1 s1 = .nx e2 s2 ∧ I (k + j + 1) e2 s2) ∨ ∃ w s2, b e1 s1 = .rt w s2 ∧ Q w s2)) →
    (∃ e' s', forL tg b vs e s = .nx e' s' ∧ I (k + vs.length) e' s') ∨ ∃ w s', forL tg b vs e s = .rt w s' ∧ Q w s'
  | [], k, e, s, h, _ => .inl ⟨e, s, rfl, h⟩
  | v :: vs, k, e, s, h, st => by
    obtain ⟨e1, s1, h1, h2⟩ := st 0 v e s rfl h
    rcases h2 with ⟨e2, s2, h2, h3⟩ | ⟨w, s2, h2, h3⟩
    · have := forL_ret I Q vs (k + 1) e2 s2 h3 fun j w e s hw hi => by
        have := st (j + 1) w e s hw (by rw [show k + (j + 1) = k + 1 + j by omega]; exact hi)
        rw [show k + (j + 1) + 1 = k + 1 + j + 1 by omega] at this
        exact this
      rw [show k + 1 + vs.length = k + (v :: vs).length by simp; omega] at this
      simp only [forL, h1, h2]
      exact this
    · exact .inr ⟨w, s2, by simp only [forL, h1, h2], h3⟩
end Mi
end
section
set_option Elab.async false
set_option linter.all false
set_option maxRecDepth 100000
set_option maxHeartbeats 4000000
namespace K69
open PySem Mi
/-! the trees of the row law_k69 (printed by gen.py) -/
/-- is_int(value, low, high) -/
def t_is_int : T := (.cons (.re (.bo .And (.cons (.isi (.v 0 "value" ⟨13, 22, 13, 27⟩) "int" ⟨13, 11, 13, 21⟩ ⟨13, 29, 13, 32⟩ ⟨13, 11, 13, 33⟩) (.cons (.nt (.isi (.v 0 "value" ⟨13, 54, 13, 59⟩) "bool" ⟨13, 43, 13, 53⟩ ⟨13, 61, 13, 65⟩ ⟨13, 43, 13, 66⟩) ⟨13, 39, 13, 66⟩) (.cons (.cm2 (.v 1 "low" ⟨13, 73, 13, 76⟩) .LtE (.v 0 "value" ⟨13, 80, 13, 85⟩) .LtE (.v 2 "high" ⟨13, 89, 13, 93⟩) ⟨13, 73, 13, 93⟩) .nil))) ⟨13, 11, 13, 94⟩) ⟨13, 4, 13, 94⟩) .nil)
/-- are_ints(value, low, high) -/
def t_are_ints : T := (.cons (.re (.bo .And (.cons (.isi (.v 0 "value" ⟨15, 22, 15, 27⟩) "tuple" ⟨15, 11, 15, 21⟩ ⟨15, 29, 15, 34⟩ ⟨15, 11, 15, 35⟩) (.cons (.bi .all "all" (.cons (.cp false (.cal 0 false "is_int" (.cons (.v 3 "one" ⟨15, 52, 15, 55⟩) (.cons (.v 1 "low" ⟨15, 57, 15, 60⟩) (.cons (.v 2 "high" ⟨15, 62, 15, 66⟩) .nil))) ⟨15, 45, 15, 51⟩ ⟨15, 45, 15, 67⟩) (.v 3 "one" ⟨15, 72, 15, 75⟩) (.pl (.v 0 "value" ⟨15, 79, 15, 84⟩)) .nil ⟨.function, [(".0", .local), ("one", .local), ("is_int", .globalImplicit), ("high", .free), ("low", .free)], false, false, []⟩ [("one", 3)] ⟨15, 44, 15, 85⟩) .nil) ⟨15, 40, 15, 43⟩ ⟨15, 40, 15, 86⟩) .nil)) ⟨15, 11, 15, 86⟩) ⟨15, 4, 15, 86⟩) .nil)
/-- is_told(value, sizes) -/
def t_is_told : T := (.cons (.re (.bo .And (.cons (.isi (.v 0 "value" ⟨17, 22, 17, 27⟩) "tuple" ⟨17, 11, 17, 21⟩ ⟨17, 29, 17, 34⟩ ⟨17, 11, 17, 35⟩) (.cons (.cmp (.bi .len "len" (.cons (.v 0 "value" ⟨17, 44, 17, 49⟩) .nil) ⟨17, 40, 17, 43⟩ ⟨17, 40, 17, 50⟩) .In (.v 1 "sizes" ⟨17, 54, 17, 59⟩) ⟨17, 40, 17, 59⟩) (.cons (.isi (.ix (.v 0 "value" ⟨17, 75, 17, 80⟩) (.c (.int 0) 0 ⟨17, 81, 17, 82⟩) ⟨17, 75, 17, 83⟩) "str" ⟨17, 64, 17, 74⟩ ⟨17, 85, 17, 88⟩ ⟨17, 64, 17, 89⟩) .nil))) ⟨17, 11, 17, 89⟩) ⟨17, 4, 17, 89⟩) .nil)
/-- are_rackings(value) -/
def t_are_rackings : T := (.cons (.re (.bo .And (.cons (.cal 1 false "are_ints" (.cons (.v 0 "value" ⟨29, 20, 29, 25⟩) (.cons (.c (.int 1) 0 ⟨29, 27, 29, 28⟩) (.cons (.g 0 "MOST_EVERY" ⟨29, 30, 29, 40⟩) .nil))) ⟨29, 11, 29, 19⟩ ⟨29, 11, 29, 41⟩) (.cons (.cm2 (.c (.int 1) 0 ⟨29, 46, 29, 47⟩) .LtE (.bi .len "len" (.cons (.v 0 "value" ⟨29, 55, 29, 60⟩) .nil) ⟨29, 51, 29, 54⟩ ⟨29, 51, 29, 61⟩) .LtE (.g 1 "MOST_CASKS" ⟨29, 65, 29, 75⟩) ⟨29, 46, 29, 75⟩) .nil)) ⟨29, 11, 29, 75⟩) ⟨29, 4, 29, 75⟩) .nil)
/-- look_at_rackings(every) -/
def t_look_at_rackings : T := (.cons (.iff (.nt (.cal 3 false "are_rackings" (.cons (.v 0 "every" ⟨31, 24, 31, 29⟩) .nil) ⟨31, 11, 31, 23⟩ ⟨31, 11, 31, 30⟩) ⟨31, 7, 31, 30⟩) (.cons (.ra ⟨32, 8, 32, 32⟩ (.Call (.Name "BadRackings" ⟨32, 14, 32, 25⟩) [(.Name "every" ⟨32, 26, 32, 31⟩)] [] ⟨32, 14, 32, 32⟩)) .nil) .nil ⟨31, 4, 32, 32⟩) .nil)
/-- are_begun(every, value) -/
def t_are_begun : T := (.cons (.iff (.bo .Or (.cons (.nt (.cal 1 false "are_ints" (.cons (.v 1 "value" ⟨34, 20, 34, 25⟩) (.cons (.c (.int 0) 0 ⟨34, 27, 34, 28⟩) (.cons (.g 0 "MOST_EVERY" ⟨34, 30, 34, 40⟩) .nil))) ⟨34, 11, 34, 19⟩ ⟨34, 11, 34, 41⟩) ⟨34, 7, 34, 41⟩) (.cons (.cmp (.bi .len "len" (.cons (.v 1 "value" ⟨34, 49, 34, 54⟩) .nil) ⟨34, 45, 34, 48⟩ ⟨34, 45, 34, 55⟩) .NotEq (.bi .len "len" (.cons (.v 0 "every" ⟨34, 63, 34, 68⟩) .nil) ⟨34, 59, 34, 62⟩ ⟨34, 59, 34, 69⟩) ⟨34, 45, 34, 69⟩) .nil)) ⟨34, 7, 34, 69⟩) (.cons (.re (.c (.bool false) 0 ⟨35, 15, 35, 20⟩) ⟨35, 8, 35, 20⟩) .nil) .nil ⟨34, 4, 35, 20⟩) (.cons (.re (.bi .all "all" (.cons (.cp false (.cmp (.v 2 "one" ⟨36, 16, 36, 19⟩) .Lt (.v 3 "last" ⟨36, 22, 36, 26⟩) ⟨36, 16, 36, 26⟩) (.tup (.cons (.v 2 "one" ⟨36, 31, 36, 34⟩) (.cons (.v 3 "last" ⟨36, 36, 36, 40⟩) .nil)) 0 ⟨36, 31, 36, 40⟩) (.zp (.cons (.v 1 "value" ⟨36, 48, 36, 53⟩) (.cons (.v 0 "every" ⟨36, 55, 36, 60⟩) .nil)) ⟨36, 44, 36, 47⟩ ⟨36, 44, 36, 61⟩) .nil ⟨.function, [(".0", .local), ("one", .local), ("last", .local)], false, false, []⟩ [("one", 2), ("last", 3)] ⟨36, 15, 36, 62⟩) .nil) ⟨36, 11, 36, 14⟩ ⟨36, 11, 36, 63⟩) ⟨36, 4, 36, 63⟩) .nil))
/-- common(one, other) -/
def t_common : T := (.cons (.wh (.cmp (.v 1 "other" ⟨38, 10, 38, 15⟩) .NotEq (.c (.int 0) 0 ⟨38, 19, 38, 20⟩) ⟨38, 10, 38, 20⟩) (.cons (.pa (.cons (.v 0 "one" ⟨39, 8, 39, 11⟩) (.cons (.v 1 "other" ⟨39, 13, 39, 18⟩) .nil)) (.cons (.v 1 "other" ⟨39, 22, 39, 27⟩) (.cons (.bin (.v 0 "one" ⟨39, 29, 39, 32⟩) .Mod (.v 1 "other" ⟨39, 35, 39, 40⟩) ⟨39, 29, 39, 40⟩) .nil)) 0 0 ⟨39, 8, 39, 18⟩ ⟨39, 21, 39, 41⟩ ⟨39, 8, 39, 41⟩) .nil) ⟨38, 4, 39, 41⟩) (.cons (.re (.v 0 "one" ⟨40, 11, 40, 14⟩) ⟨40, 4, 40, 14⟩) .nil))
/-- told_meet(first, one, second, other) -/
def t_told_meet : T := (.cons (.re (.cmp (.bin (.bin (.v 0 "first" ⟨42, 12, 42, 17⟩) .Sub (.v 2 "second" ⟨42, 20, 42, 26⟩) ⟨42, 12, 42, 26⟩) .Mod (.cal 6 false "common" (.cons (.v 1 "one" ⟨42, 37, 42, 40⟩) (.cons (.v 3 "other" ⟨42, 42, 42, 47⟩) .nil)) ⟨42, 30, 42, 36⟩ ⟨42, 30, 42, 48⟩) ⟨42, 11, 42, 48⟩) .Eq (.c (.int 0) 0 ⟨42, 52, 42, 53⟩) ⟨42, 11, 42, 53⟩) ⟨42, 4, 42, 53⟩) .nil)
/-- first_meeting(every, begun) -/
def t_first_meeting : T := (.cons (.exs (.cal 4 false "look_at_rackings" (.cons (.v 0 "every" ⟨44, 21, 44, 26⟩) .nil) ⟨44, 4, 44, 20⟩ ⟨44, 4, 44, 27⟩) ⟨44, 4, 44, 27⟩) (.cons (.iff (.nt (.cal 5 false "are_begun" (.cons (.v 0 "every" ⟨45, 21, 45, 26⟩) (.cons (.v 1 "begun" ⟨45, 28, 45, 33⟩) .nil)) ⟨45, 11, 45, 20⟩ ⟨45, 11, 45, 34⟩) ⟨45, 7, 45, 34⟩) (.cons (.ra ⟨46, 8, 46, 32⟩ (.Call (.Name "BadRackings" ⟨46, 14, 46, 25⟩) [(.Name "begun" ⟨46, 26, 46, 31⟩)] [] ⟨46, 14, 46, 32⟩)) .nil) .nil ⟨45, 4, 46, 32⟩) (.cons (.as (.v 2 "found" ⟨47, 4, 47, 9⟩) (.lst true .nil ⟨47, 12, 47, 14⟩) ⟨47, 4, 47, 14⟩) (.cons (.fo (.tup (.cons (.v 3 "at" ⟨48, 8, 48, 10⟩) (.cons (.tup (.cons (.v 4 "day" ⟨48, 13, 48, 16⟩) (.cons (.v 5 "step" ⟨48, 18, 48, 22⟩) .nil)) 0 ⟨48, 12, 48, 23⟩) .nil)) 0 ⟨48, 8, 48, 23⟩) (.ez (.cons (.v 1 "begun" ⟨48, 41, 48, 46⟩) (.cons (.v 0 "every" ⟨48, 48, 48, 53⟩) .nil)) ⟨48, 27, 48, 36⟩ ⟨48, 37, 48, 40⟩ ⟨48, 37, 48, 54⟩ ⟨48, 27, 48, 55⟩) (.cons (.fo (.v 6 "spot" ⟨49, 12, 49, 16⟩) (.rg (.cons (.v 3 "at" ⟨49, 26, 49, 28⟩) .nil) ⟨49, 20, 49, 25⟩ ⟨49, 20, 49, 29⟩) (.cons (.iff (.cal 7 false "told_meet" (.cons (.v 4 "day" ⟨50, 25, 50, 28⟩) (.cons (.v 5 "step" ⟨50, 30, 50, 34⟩) (.cons (.ix (.v 1 "begun" ⟨50, 36, 50, 41⟩) (.v 6 "spot" ⟨50, 42, 50, 46⟩) ⟨50, 36, 50, 47⟩) (.cons (.ix (.v 0 "every" ⟨50, 49, 50, 54⟩) (.v 6 "spot" ⟨50, 55, 50, 59⟩) ⟨50, 49, 50, 60⟩) .nil)))) ⟨50, 15, 50, 24⟩ ⟨50, 15, 50, 61⟩) (.cons (.as (.v 7 "both" ⟨51, 16, 51, 20⟩) (.v 4 "day" ⟨51, 23, 51, 26⟩) ⟨51, 16, 51, 26⟩) (.cons (.wh (.bo .Or (.cons (.cmp (.bin (.bin (.v 7 "both" ⟨52, 23, 52, 27⟩) .Sub (.ix (.v 1 "begun" ⟨52, 30, 52, 35⟩) (.v 6 "spot" ⟨52, 36, 52, 40⟩) ⟨52, 30, 52, 41⟩) ⟨52, 23, 52, 41⟩) .Mod (.ix (.v 0 "every" ⟨52, 45, 52, 50⟩) (.v 6 "spot" ⟨52, 51, 52, 55⟩) ⟨52, 45, 52, 56⟩) ⟨52, 22, 52, 56⟩) .NotEq (.c (.int 0) 0 ⟨52, 60, 52, 61⟩) ⟨52, 22, 52, 61⟩) (.cons (.cmp (.v 7 "both" ⟨52, 65, 52, 69⟩) .Lt (.ix (.v 1 "begun" ⟨52, 72, 52, 77⟩) (.v 6 "spot" ⟨52, 78, 52, 82⟩) ⟨52, 72, 52, 83⟩) ⟨52, 65, 52, 83⟩) .nil)) ⟨52, 22, 52, 83⟩) (.cons (.ag (.v 7 "both" ⟨53, 20, 53, 24⟩) .Add (.v 5 "step" ⟨53, 28, 53, 32⟩) ⟨53, 20, 53, 32⟩) .nil) ⟨52, 16, 53, 32⟩) (.cons (.exs (.app (.v 2 "found" ⟨54, 16, 54, 21⟩) (.tup (.cons (.v 7 "both" ⟨54, 30, 54, 34⟩) (.cons (.v 6 "spot" ⟨54, 36, 54, 40⟩) (.cons (.v 3 "at" ⟨54, 42, 54, 44⟩) .nil))) 0 ⟨54, 29, 54, 45⟩) ⟨54, 16, 54, 28⟩ ⟨54, 16, 54, 46⟩) ⟨54, 16, 54, 46⟩) .nil))) .nil ⟨50, 12, 54, 46⟩) .nil) ⟨49, 8, 54, 46⟩) .nil) ⟨48, 4, 54, 46⟩) (.cons (.re (.ite (.cmp (.v 2 "found" ⟨55, 25, 55, 30⟩) .NotEq (.lst false .nil ⟨55, 34, 55, 36⟩) ⟨55, 25, 55, 36⟩) (.bi .min "min" (.cons (.v 2 "found" ⟨55, 15, 55, 20⟩) .nil) ⟨55, 11, 55, 14⟩ ⟨55, 11, 55, 21⟩) (.c .none 0 ⟨55, 42, 55, 46⟩) ⟨55, 11, 55, 46⟩) ⟨55, 4, 55, 46⟩) .nil)))))
/-- told_load(every) -/
def t_told_load : T := (.cons (.pa (.cons (.v 1 "top" ⟨57, 4, 57, 7⟩) (.cons (.v 2 "bottom" ⟨57, 9, 57, 15⟩) .nil)) (.cons (.c (.int 0) 0 ⟨57, 19, 57, 20⟩) (.cons (.c (.int 1) 0 ⟨57, 22, 57, 23⟩) .nil)) 0 0 ⟨57, 4, 57, 15⟩ ⟨57, 18, 57, 24⟩ ⟨57, 4, 57, 24⟩) (.cons (.fo (.v 3 "step" ⟨58, 8, 58, 12⟩) (.pl (.v 0 "every" ⟨58, 16, 58, 21⟩)) (.cons (.pa (.cons (.v 1 "top" ⟨59, 8, 59, 11⟩) (.cons (.v 2 "bottom" ⟨59, 13, 59, 19⟩) .nil)) (.cons (.bin (.bin (.v 1 "top" ⟨59, 23, 59, 26⟩) .Mult (.v 3 "step" ⟨59, 29, 59, 33⟩) ⟨59, 23, 59, 33⟩) .Add (.v 2 "bottom" ⟨59, 36, 59, 42⟩) ⟨59, 23, 59, 42⟩) (.cons (.bin (.v 2 "bottom" ⟨59, 44, 59, 50⟩) .Mult (.v 3 "step" ⟨59, 53, 59, 57⟩) ⟨59, 44, 59, 57⟩) .nil)) 0 0 ⟨59, 8, 59, 19⟩ ⟨59, 22, 59, 58⟩ ⟨59, 8, 59, 58⟩) (.cons (.as (.v 4 "less" ⟨60, 8, 60, 12⟩) (.cal 6 false "common" (.cons (.v 1 "top" ⟨60, 22, 60, 25⟩) (.cons (.v 2 "bottom" ⟨60, 27, 60, 33⟩) .nil)) ⟨60, 15, 60, 21⟩ ⟨60, 15, 60, 34⟩) ⟨60, 8, 60, 34⟩) (.cons (.pa (.cons (.v 1 "top" ⟨61, 8, 61, 11⟩) (.cons (.v 2 "bottom" ⟨61, 13, 61, 19⟩) .nil)) (.cons (.bin (.v 1 "top" ⟨61, 23, 61, 26⟩) .FloorDiv (.v 4 "less" ⟨61, 30, 61, 34⟩) ⟨61, 23, 61, 34⟩) (.cons (.bin (.v 2 "bottom" ⟨61, 36, 61, 42⟩) .FloorDiv (.v 4 "less" ⟨61, 46, 61, 50⟩) ⟨61, 36, 61, 50⟩) .nil)) 0 0 ⟨61, 8, 61, 19⟩ ⟨61, 22, 61, 51⟩ ⟨61, 8, 61, 51⟩) .nil))) ⟨58, 4, 61, 51⟩) (.cons (.re (.tup (.cons (.v 1 "top" ⟨62, 12, 62, 15⟩) (.cons (.v 2 "bottom" ⟨62, 17, 62, 23⟩) .nil)) 0 ⟨62, 11, 62, 24⟩) ⟨62, 4, 62, 24⟩) .nil)))
/-- told_lot(every) -/
def t_told_lot : T := (.cons (.fo (.v 1 "number" ⟨64, 8, 64, 14⟩) (.rg (.cons (.c (.int 1) 0 ⟨64, 24, 64, 25⟩) (.cons (.g 1 "MOST_CASKS" ⟨64, 27, 64, 37⟩) .nil)) ⟨64, 18, 64, 23⟩ ⟨64, 18, 64, 38⟩) (.cons (.as (.v 2 "lots" ⟨65, 8, 65, 12⟩) (.lst true (.cons (.tup .nil 0 ⟨65, 16, 65, 18⟩) .nil) ⟨65, 15, 65, 19⟩) ⟨65, 8, 65, 19⟩) (.cons (.fo (.v 3 "at" ⟨66, 12, 66, 14⟩) (.rg (.cons (.bi .len "len" (.cons (.v 0 "every" ⟨66, 28, 66, 33⟩) .nil) ⟨66, 24, 66, 27⟩ ⟨66, 24, 66, 34⟩) .nil) ⟨66, 18, 66, 23⟩ ⟨66, 18, 66, 35⟩) (.cons (.as (.v 4 "shared" ⟨67, 12, 67, 18⟩) (.cp false (.cal 6 false "common" (.cons (.ix (.v 0 "every" ⟨67, 29, 67, 34⟩) (.v 3 "at" ⟨67, 35, 67, 37⟩) ⟨67, 29, 67, 38⟩) (.cons (.v 6 "step" ⟨67, 40, 67, 44⟩) .nil)) ⟨67, 22, 67, 28⟩ ⟨67, 22, 67, 45⟩) (.v 6 "step" ⟨67, 50, 67, 54⟩) (.pl (.v 0 "every" ⟨67, 58, 67, 63⟩)) .nil ⟨.function, [(".0", .local), ("step", .local), ("common", .globalImplicit), ("at", .free), ("every", .free)], false, false, []⟩ [("step", 6)] ⟨67, 21, 67, 64⟩) ⟨67, 12, 67, 64⟩) (.cons (.exs (.met .ext (.v 2 "lots" ⟨68, 12, 68, 16⟩) (.cons (.cp false (.tup (.star (.v 7 "lot" ⟨68, 27, 68, 30⟩) (.cons (.v 3 "at" ⟨68, 32, 68, 34⟩) .nil) ⟨68, 26, 68, 30⟩) 0 ⟨68, 25, 68, 35⟩) (.v 7 "lot" ⟨68, 40, 68, 43⟩) (.pl (.v 2 "lots" ⟨68, 47, 68, 51⟩)) (.cons (.bi .all "all" (.cons (.cp false (.cmp (.bin (.v 1 "number" ⟨68, 60, 68, 66⟩) .Mod (.ix (.v 4 "shared" ⟨68, 69, 68, 75⟩) (.v 8 "one" ⟨68, 76, 68, 79⟩) ⟨68, 69, 68, 80⟩) ⟨68, 60, 68, 80⟩) .Eq (.c (.int 0) 0 ⟨68, 84, 68, 85⟩) ⟨68, 60, 68, 85⟩) (.v 8 "one" ⟨68, 90, 68, 93⟩) (.pl (.v 7 "lot" ⟨68, 97, 68, 100⟩)) .nil ⟨.function, [(".0", .local), ("one", .local), ("number", .free), ("shared", .free)], false, false, []⟩ [("one", 8)] ⟨68, 59, 68, 101⟩) .nil) ⟨68, 55, 68, 58⟩ ⟨68, 55, 68, 102⟩) .nil) ⟨.function, [(".0", .local), ("lot", .local), ("all", .globalImplicit), ("at", .free), ("number", .free), ("shared", .free)], false, false, []⟩ [("lot", 7)] ⟨68, 24, 68, 103⟩) .nil) ⟨68, 12, 68, 23⟩ ⟨68, 12, 68, 104⟩) ⟨68, 12, 68, 104⟩) .nil)) ⟨66, 8, 68, 104⟩) (.cons (.as (.v 5 "fit" ⟨69, 8, 69, 11⟩) (.cp false (.v 7 "lot" ⟨69, 15, 69, 18⟩) (.v 7 "lot" ⟨69, 23, 69, 26⟩) (.pl (.v 2 "lots" ⟨69, 30, 69, 34⟩)) (.cons (.cmp (.bi .len "len" (.cons (.v 7 "lot" ⟨69, 42, 69, 45⟩) .nil) ⟨69, 38, 69, 41⟩ ⟨69, 38, 69, 46⟩) .Gt (.v 1 "number" ⟨69, 49, 69, 55⟩) ⟨69, 38, 69, 55⟩) .nil) ⟨.function, [(".0", .local), ("lot", .local), ("len", .globalImplicit), ("number", .free)], false, false, []⟩ [("lot", 7)] ⟨69, 14, 69, 56⟩) ⟨69, 8, 69, 56⟩) (.cons (.iff (.cmp (.v 5 "fit" ⟨70, 11, 70, 14⟩) .NotEq (.lst false .nil ⟨70, 18, 70, 20⟩) ⟨70, 11, 70, 20⟩) (.cons (.re (.tup (.cons (.v 1 "number" ⟨71, 20, 71, 26⟩) (.cons (.bi .min "min" (.cons (.v 5 "fit" ⟨71, 32, 71, 35⟩) .nil) ⟨71, 28, 71, 31⟩ ⟨71, 28, 71, 36⟩) .nil)) 0 ⟨71, 19, 71, 37⟩) ⟨71, 12, 71, 37⟩) .nil) .nil ⟨70, 8, 71, 37⟩) .nil)))) ⟨64, 4, 71, 37⟩) (.cons (.re (.c .none 0 ⟨72, 11, 72, 15⟩) ⟨72, 4, 72, 15⟩) .nil))
/-- told_begun(every) -/
def t_told_begun : T := (.cons (.as (.v 2 "order" ⟨74, 4, 74, 9⟩) (.cp false (.v 1 "at" ⟨74, 13, 74, 15⟩) (.tup (.cons (.v 8 "step" ⟨74, 20, 74, 24⟩) (.cons (.v 1 "at" ⟨74, 26, 74, 28⟩) .nil)) 0 ⟨74, 20, 74, 28⟩) (.pl (.bi .sorted "sorted" (.cons (.cp false (.tup (.cons (.v 8 "step" ⟨74, 41, 74, 45⟩) (.cons (.v 1 "at" ⟨74, 47, 74, 49⟩) .nil)) 0 ⟨74, 40, 74, 50⟩) (.tup (.cons (.v 1 "at" ⟨74, 55, 74, 57⟩) (.cons (.v 8 "step" ⟨74, 59, 74, 63⟩) .nil)) 0 ⟨74, 55, 74, 63⟩) (.en (.cons (.v 0 "every" ⟨74, 77, 74, 82⟩) .nil) ⟨74, 67, 74, 76⟩ ⟨74, 67, 74, 83⟩) .nil ⟨.function, [(".0", .local), ("at", .local), ("step", .local)], false, false, []⟩ [("at", 1), ("step", 8)] ⟨74, 39, 74, 84⟩) .nil) ⟨74, 32, 74, 38⟩ ⟨74, 32, 74, 85⟩)) .nil ⟨.function, [(".0", .local), ("step", .local), ("at", .local)], false, false, []⟩ [("step", 8), ("at", 1)] ⟨74, 12, 74, 86⟩) ⟨74, 4, 74, 86⟩) (.cons (.pa (.cons (.v 3 "days" ⟨75, 4, 75, 8⟩) (.cons (.v 4 "spot" ⟨75, 10, 75, 14⟩) (.cons (.v 5 "tried" ⟨75, 16, 75, 21⟩) .nil))) (.cons (.rpm (.lst false (.cons (.neg (.c (.int 1) 0 ⟨75, 27, 75, 28⟩) ⟨75, 26, 75, 28⟩) .nil) ⟨75, 25, 75, 29⟩) (.bi .len "len" (.cons (.v 0 "every" ⟨75, 36, 75, 41⟩) .nil) ⟨75, 32, 75, 35⟩ ⟨75, 32, 75, 42⟩) ⟨75, 25, 75, 42⟩) (.cons (.c (.int 0) 0 ⟨75, 44, 75, 45⟩) (.cons (.c (.int 0) 0 ⟨75, 47, 75, 48⟩) .nil))) 0 0 ⟨75, 4, 75, 21⟩ ⟨75, 24, 75, 49⟩ ⟨75, 4, 75, 49⟩) (.cons (.wh (.cm2 (.c (.int 0) 0 ⟨76, 10, 76, 11⟩) .LtE (.v 4 "spot" ⟨76, 15, 76, 19⟩) .Lt (.bi .len "len" (.cons (.v 2 "order" ⟨76, 26, 76, 31⟩) .nil) ⟨76, 22, 76, 25⟩ ⟨76, 22, 76, 32⟩) ⟨76, 10, 76, 32⟩) (.cons (.as (.v 1 "at" ⟨77, 8, 77, 10⟩) (.ix (.v 2 "order" ⟨77, 13, 77, 18⟩) (.v 4 "spot" ⟨77, 19, 77, 23⟩) ⟨77, 13, 77, 24⟩) ⟨77, 8, 77, 24⟩) (.cons (.ag (.v 5 "tried" ⟨78, 8, 78, 13⟩) .Add (.c (.int 1) 0 ⟨78, 17, 78, 18⟩) ⟨78, 8, 78, 18⟩) (.cons (.iff (.cmp (.v 5 "tried" ⟨79, 11, 79, 16⟩) .Gt (.g 2 "MOST_TRIED" ⟨79, 19, 79, 29⟩) ⟨79, 11, 79, 29⟩) (.cons (.ra ⟨80, 12, 80, 37⟩ (.Call (.Name "TooMany" ⟨80, 18, 80, 25⟩) [(.Name "MOST_TRIED" ⟨80, 26, 80, 36⟩)] [] ⟨80, 18, 80, 37⟩)) .nil) .nil ⟨79, 8, 80, 37⟩) (.cons (.as (.v 6 "last" ⟨81, 8, 81, 12⟩) (.ite (.cmp (.v 4 "spot" ⟨81, 28, 81, 32⟩) .Gt (.c (.int 0) 0 ⟨81, 35, 81, 36⟩) ⟨81, 28, 81, 36⟩) (.ix (.v 0 "every" ⟨81, 15, 81, 20⟩) (.v 1 "at" ⟨81, 21, 81, 23⟩) ⟨81, 15, 81, 24⟩) (.c (.int 1) 0 ⟨81, 42, 81, 43⟩) ⟨81, 15, 81, 43⟩) ⟨81, 8, 81, 43⟩) (.cons (.as (.v 7 "fit" ⟨82, 8, 82, 11⟩) (.cp false (.v 9 "day" ⟨82, 15, 82, 18⟩) (.v 9 "day" ⟨82, 23, 82, 26⟩) (.rg (.cons (.bin (.ix (.v 3 "days" ⟨82, 36, 82, 40⟩) (.v 1 "at" ⟨82, 41, 82, 43⟩) ⟨82, 36, 82, 44⟩) .Add (.c (.int 1) 0 ⟨82, 47, 82, 48⟩) ⟨82, 36, 82, 48⟩) (.cons (.v 6 "last" ⟨82, 50, 82, 54⟩) .nil)) ⟨82, 30, 82, 35⟩ ⟨82, 30, 82, 55⟩) (.cons (.cal 12 false "is_free" (.cons (.v 0 "every" ⟨82, 67, 82, 72⟩) (.cons (.v 3 "days" ⟨82, 74, 82, 78⟩) (.cons (.sl (.v 2 "order" ⟨82, 80, 82, 85⟩) .nil (.pl (.v 4 "spot" ⟨82, 87, 82, 91⟩)) ⟨82, 80, 82, 92⟩ ⟨82, 86, 82, 91⟩) (.cons (.v 1 "at" ⟨82, 94, 82, 96⟩) (.cons (.v 9 "day" ⟨82, 98, 82, 101⟩) .nil))))) ⟨82, 59, 82, 66⟩ ⟨82, 59, 82, 102⟩) .nil) ⟨.function, [(".0", .local), ("day", .local), ("is_free", .globalImplicit), ("at", .free), ("days", .free), ("every", .free), ("order", .free), ("spot", .free)], false, false, []⟩ [("day", 9)] ⟨82, 14, 82, 103⟩) ⟨82, 8, 82, 103⟩) (.cons (.iff (.cmp (.v 7 "fit" ⟨83, 11, 83, 14⟩) .Eq (.lst false .nil ⟨83, 18, 83, 20⟩) ⟨83, 11, 83, 20⟩) (.cons (.as (.ix (.v 3 "days" ⟨84, 12, 84, 16⟩) (.v 1 "at" ⟨84, 17, 84, 19⟩) ⟨84, 12, 84, 20⟩) (.neg (.c (.int 1) 0 ⟨84, 24, 84, 25⟩) ⟨84, 23, 84, 25⟩) ⟨84, 12, 84, 25⟩) (.cons (.ag (.v 4 "spot" ⟨85, 12, 85, 16⟩) .Sub (.c (.int 1) 0 ⟨85, 20, 85, 21⟩) ⟨85, 12, 85, 21⟩) .nil)) (.cons (.as (.ix (.v 3 "days" ⟨87, 12, 87, 16⟩) (.v 1 "at" ⟨87, 17, 87, 19⟩) ⟨87, 12, 87, 20⟩) (.ix (.v 7 "fit" ⟨87, 23, 87, 26⟩) (.c (.int 0) 0 ⟨87, 27, 87, 28⟩) ⟨87, 23, 87, 29⟩) ⟨87, 12, 87, 29⟩) (.cons (.ag (.v 4 "spot" ⟨88, 12, 88, 16⟩) .Add (.c (.int 1) 0 ⟨88, 20, 88, 21⟩) ⟨88, 12, 88, 21⟩) .nil)) ⟨83, 8, 88, 21⟩) .nil)))))) ⟨76, 4, 88, 21⟩) (.cons (.re (.ite (.cmp (.v 4 "spot" ⟨89, 19, 89, 23⟩) .Lt (.c (.int 0) 0 ⟨89, 26, 89, 27⟩) ⟨89, 19, 89, 27⟩) (.c .none 0 ⟨89, 11, 89, 15⟩) (.bi .tuple "tuple" (.cons (.v 3 "days" ⟨89, 39, 89, 43⟩) .nil) ⟨89, 33, 89, 38⟩ ⟨89, 33, 89, 44⟩) ⟨89, 11, 89, 44⟩) ⟨89, 4, 89, 44⟩) .nil))))
/-- is_free(every, days, others, at, day) -/
def t_is_free : T := (.cons (.re (.nt (.bi .any "any" (.cons (.cp false (.cal 7 false "told_meet" (.cons (.v 4 "day" ⟨91, 30, 91, 33⟩) (.cons (.ix (.v 0 "every" ⟨91, 35, 91, 40⟩) (.v 3 "at" ⟨91, 41, 91, 43⟩) ⟨91, 35, 91, 44⟩) (.cons (.ix (.v 1 "days" ⟨91, 46, 91, 50⟩) (.v 5 "other" ⟨91, 51, 91, 56⟩) ⟨91, 46, 91, 57⟩) (.cons (.ix (.v 0 "every" ⟨91, 59, 91, 64⟩) (.v 5 "other" ⟨91, 65, 91, 70⟩) ⟨91, 59, 91, 71⟩) .nil)))) ⟨91, 20, 91, 29⟩ ⟨91, 20, 91, 72⟩) (.v 5 "other" ⟨91, 77, 91, 82⟩) (.pl (.v 2 "others" ⟨91, 86, 91, 92⟩)) .nil ⟨.function, [(".0", .local), ("other", .local), ("told_meet", .globalImplicit), ("at", .free), ("day", .free), ("days", .free), ("every", .free)], false, false, []⟩ [("other", 5)] ⟨91, 19, 91, 93⟩) .nil) ⟨91, 15, 91, 18⟩ ⟨91, 15, 91, 94⟩) ⟨91, 11, 91, 94⟩) ⟨91, 4, 91, 94⟩) .nil)
/-- told_racking(every) -/
def t_told_racking : T := (.cons (.as (.tup (.cons (.v 1 "top" ⟨93, 4, 93, 7⟩) (.cons (.v 2 "bottom" ⟨93, 9, 93, 15⟩) .nil)) 0 ⟨93, 4, 93, 15⟩) (.cal 9 false "told_load" (.cons (.v 0 "every" ⟨93, 28, 93, 33⟩) .nil) ⟨93, 18, 93, 27⟩ ⟨93, 18, 93, 34⟩) ⟨93, 4, 93, 34⟩) (.cons (.iff (.cmp (.v 1 "top" ⟨94, 7, 94, 10⟩) .Gt (.v 2 "bottom" ⟨94, 13, 94, 19⟩) ⟨94, 7, 94, 19⟩) (.cons (.re (.tup (.cons (.g 3 "LOAD" ⟨95, 16, 95, 20⟩) (.cons (.v 1 "top" ⟨95, 22, 95, 25⟩) (.cons (.v 2 "bottom" ⟨95, 27, 95, 33⟩) .nil))) 0 ⟨95, 15, 95, 34⟩) ⟨95, 8, 95, 34⟩) .nil) .nil ⟨94, 4, 95, 34⟩) (.cons (.fo (.v 3 "at" ⟨96, 8, 96, 10⟩) (.rg (.cons (.bi .len "len" (.cons (.v 0 "every" ⟨96, 24, 96, 29⟩) .nil) ⟨96, 20, 96, 23⟩ ⟨96, 20, 96, 30⟩) .nil) ⟨96, 14, 96, 19⟩ ⟨96, 14, 96, 31⟩) (.cons (.fo (.v 4 "spot" ⟨97, 12, 97, 16⟩) (.rg (.cons (.v 3 "at" ⟨97, 26, 97, 28⟩) .nil) ⟨97, 20, 97, 25⟩ ⟨97, 20, 97, 29⟩) (.cons (.iff (.cmp (.cal 6 false "common" (.cons (.ix (.v 0 "every" ⟨98, 22, 98, 27⟩) (.v 3 "at" ⟨98, 28, 98, 30⟩) ⟨98, 22, 98, 31⟩) (.cons (.ix (.v 0 "every" ⟨98, 33, 98, 38⟩) (.v 4 "spot" ⟨98, 39, 98, 43⟩) ⟨98, 33, 98, 44⟩) .nil)) ⟨98, 15, 98, 21⟩ ⟨98, 15, 98, 45⟩) .Eq (.c (.int 1) 0 ⟨98, 49, 98, 50⟩) ⟨98, 15, 98, 50⟩) (.cons (.re (.tup (.cons (.g 4 "PAIR" ⟨99, 24, 99, 28⟩) (.cons (.v 4 "spot" ⟨99, 30, 99, 34⟩) (.cons (.v 3 "at" ⟨99, 36, 99, 38⟩) .nil))) 0 ⟨99, 23, 99, 39⟩) ⟨99, 16, 99, 39⟩) .nil) .nil ⟨98, 12, 99, 39⟩) .nil) ⟨97, 8, 99, 39⟩) .nil) ⟨96, 4, 99, 39⟩) (.cons (.as (.v 5 "found" ⟨100, 4, 100, 9⟩) (.cal 11 false "told_begun" (.cons (.v 0 "every" ⟨100, 23, 100, 28⟩) .nil) ⟨100, 12, 100, 22⟩ ⟨100, 12, 100, 29⟩) ⟨100, 4, 100, 29⟩) (.cons (.iff (.cmp (.v 5 "found" ⟨101, 7, 101, 12⟩) .IsNot (.c .none 0 ⟨101, 20, 101, 24⟩) ⟨101, 7, 101, 24⟩) (.cons (.re (.tup (.cons (.g 5 "BEGIN" ⟨102, 16, 102, 21⟩) (.cons (.v 5 "found" ⟨102, 23, 102, 28⟩) .nil)) 0 ⟨102, 15, 102, 29⟩) ⟨102, 8, 102, 29⟩) .nil) .nil ⟨101, 4, 102, 29⟩) (.cons (.as (.v 6 "lot" ⟨103, 4, 103, 7⟩) (.cal 10 false "told_lot" (.cons (.v 0 "every" ⟨103, 19, 103, 24⟩) .nil) ⟨103, 10, 103, 18⟩ ⟨103, 10, 103, 25⟩) ⟨103, 4, 103, 25⟩) (.cons (.re (.ite (.cmp (.v 6 "lot" ⟨104, 26, 104, 29⟩) .IsNot (.c .none 0 ⟨104, 37, 104, 41⟩) ⟨104, 26, 104, 41⟩) (.tup (.cons (.g 6 "LOT" ⟨104, 12, 104, 15⟩) (.star (.v 6 "lot" ⟨104, 18, 104, 21⟩) .nil ⟨104, 17, 104, 21⟩)) 0 ⟨104, 11, 104, 22⟩) (.tup (.cons (.g 7 "TRIED" ⟨104, 48, 104, 53⟩) .nil) 0 ⟨104, 47, 104, 55⟩) ⟨104, 11, 104, 55⟩) ⟨104, 4, 104, 55⟩) .nil)))))))
/-- racking(every) -/
def t_racking : T := (.cons (.exs (.cal 4 false "look_at_rackings" (.cons (.v 0 "every" ⟨106, 21, 106, 26⟩) .nil) ⟨106, 4, 106, 20⟩ ⟨106, 4, 106, 27⟩) ⟨106, 4, 106, 27⟩) (.cons (.re (.cal 13 false "told_racking" (.cons (.v 0 "every" ⟨107, 24, 107, 29⟩) .nil) ⟨107, 11, 107, 23⟩ ⟨107, 11, 107, 30⟩) ⟨107, 4, 107, 30⟩) .nil))
/-- is_lot(every, number, lot) -/
def t_is_lot : T := (.cons (.iff (.bo .Or (.cons (.cmp (.bi .len "len" (.cons (.v 2 "lot" ⟨109, 11, 109, 14⟩) .nil) ⟨109, 7, 109, 10⟩ ⟨109, 7, 109, 15⟩) .LtE (.v 1 "number" ⟨109, 19, 109, 25⟩) ⟨109, 7, 109, 25⟩) (.cons (.nt (.bi .all "all" (.cons (.cp false (.cmp (.v 3 "one" ⟨109, 38, 109, 41⟩) .Lt (.v 4 "last" ⟨109, 44, 109, 48⟩) ⟨109, 38, 109, 48⟩) (.tup (.cons (.v 3 "one" ⟨109, 53, 109, 56⟩) (.cons (.v 4 "last" ⟨109, 58, 109, 62⟩) .nil)) 0 ⟨109, 53, 109, 62⟩) (.zp (.cons (.v 2 "lot" ⟨109, 70, 109, 73⟩) (.cons (.sl (.v 2 "lot" ⟨109, 75, 109, 78⟩) (.pl (.c (.int 1) 0 ⟨109, 79, 109, 80⟩)) .nil ⟨109, 75, 109, 82⟩ ⟨109, 79, 109, 81⟩) .nil)) ⟨109, 66, 109, 69⟩ ⟨109, 66, 109, 83⟩) .nil ⟨.function, [(".0", .local), ("one", .local), ("last", .local)], false, false, []⟩ [("one", 3), ("last", 4)] ⟨109, 37, 109, 84⟩) .nil) ⟨109, 33, 109, 36⟩ ⟨109, 33, 109, 85⟩) ⟨109, 29, 109, 85⟩) .nil)) ⟨109, 7, 109, 85⟩) (.cons (.re (.c (.bool false) 0 ⟨110, 15, 110, 20⟩) ⟨110, 8, 110, 20⟩) .nil) .nil ⟨109, 4, 110, 20⟩) (.cons (.xs (.Return (some (.Call (.Name "all" ⟨111, 11, 111, 14⟩) [(.ListComp (.Compare (.BinOp (.Name "number" ⟨111, 16, 111, 22⟩) (PySem.Operator.Mod) (.Call (.Name "common" ⟨111, 25, 111, 31⟩) [(.Subscript (.Name "every" ⟨111, 32, 111, 37⟩) (.Name "one" ⟨111, 38, 111, 41⟩) ⟨111, 32, 111, 42⟩), (.Subscript (.Name "every" ⟨111, 44, 111, 49⟩) (.Name "other" ⟨111, 50, 111, 55⟩) ⟨111, 44, 111, 56⟩)] [] ⟨111, 25, 111, 57⟩) ⟨111, 16, 111, 57⟩) [(PySem.CmpOp.Eq)] [(.Constant (PySem.Const.int 0) 0 ⟨111, 61, 111, 62⟩)] ⟨111, 16, 111, 62⟩) [{ target := (.Name "one" ⟨111, 67, 111, 70⟩), iter := (.Name "lot" ⟨111, 74, 111, 77⟩), ifs := [], is_async := 0 }, { target := (.Name "other" ⟨111, 82, 111, 87⟩), iter := (.Name "lot" ⟨111, 91, 111, 94⟩), ifs := [(.Compare (.Name "one" ⟨111, 98, 111, 101⟩) [(PySem.CmpOp.NotEq)] [(.Name "other" ⟨111, 105, 111, 110⟩)] ⟨111, 98, 111, 110⟩)], is_async := 0 }] { kind := (PySem.ScopeKind.function), names := [(".0", (PySem.NameKind.local)), ("one", (PySem.NameKind.local)), ("other", (PySem.NameKind.local)), ("common", (PySem.NameKind.globalImplicit)), ("every", (PySem.NameKind.free)), ("lot", (PySem.NameKind.free)), ("number", (PySem.NameKind.free))], isGenerator := false, isCoroutine := false, more := [] } ⟨111, 15, 111, 111⟩)] [] ⟨111, 11, 111, 112⟩)) ⟨111, 4, 111, 112⟩)) .nil))
/-- shows_racking(every, value) -/
def t_shows_racking : T := (.cons (.exs (.cal 4 false "look_at_rackings" (.cons (.v 0 "every" ⟨113, 21, 113, 26⟩) .nil) ⟨113, 4, 113, 20⟩ ⟨113, 4, 113, 27⟩) ⟨113, 4, 113, 27⟩) (.cons (.iff (.nt (.cal 2 false "is_told" (.cons (.v 1 "value" ⟨114, 19, 114, 24⟩) (.cons (.tup (.cons (.c (.int 1) 0 ⟨114, 27, 114, 28⟩) (.cons (.c (.int 2) 0 ⟨114, 30, 114, 31⟩) (.cons (.g 8 "THREE" ⟨114, 33, 114, 38⟩) .nil))) 0 ⟨114, 26, 114, 39⟩) .nil)) ⟨114, 11, 114, 18⟩ ⟨114, 11, 114, 40⟩) ⟨114, 7, 114, 40⟩) (.cons (.re (.c (.bool false) 0 ⟨115, 15, 115, 20⟩) ⟨115, 8, 115, 20⟩) .nil) .nil ⟨114, 4, 115, 20⟩) (.cons (.as (.tup (.cons (.v 2 "top" ⟨116, 4, 116, 7⟩) (.cons (.v 3 "bottom" ⟨116, 9, 116, 15⟩) .nil)) 0 ⟨116, 4, 116, 15⟩) (.cal 9 false "told_load" (.cons (.v 0 "every" ⟨116, 28, 116, 33⟩) .nil) ⟨116, 18, 116, 27⟩ ⟨116, 18, 116, 34⟩) ⟨116, 4, 116, 34⟩) (.cons (.iff (.bo .And (.cons (.cmp (.ix (.v 1 "value" ⟨117, 7, 117, 12⟩) (.c (.int 0) 0 ⟨117, 13, 117, 14⟩) ⟨117, 7, 117, 15⟩) .Eq (.g 5 "BEGIN" ⟨117, 19, 117, 24⟩) ⟨117, 7, 117, 24⟩) (.cons (.cmp (.bi .len "len" (.cons (.v 1 "value" ⟨117, 33, 117, 38⟩) .nil) ⟨117, 29, 117, 32⟩ ⟨117, 29, 117, 39⟩) .Eq (.c (.int 2) 0 ⟨117, 43, 117, 44⟩) ⟨117, 29, 117, 44⟩) .nil)) ⟨117, 7, 117, 44⟩) (.cons (.re (.bo .And (.cons (.cal 5 false "are_begun" (.cons (.v 0 "every" ⟨118, 25, 118, 30⟩) (.cons (.ix (.v 1 "value" ⟨118, 32, 118, 37⟩) (.c (.int 1) 0 ⟨118, 38, 118, 39⟩) ⟨118, 32, 118, 40⟩) .nil)) ⟨118, 15, 118, 24⟩ ⟨118, 15, 118, 41⟩) (.cons (.cmp (.cal 8 false "first_meeting" (.cons (.v 0 "every" ⟨118, 60, 118, 65⟩) (.cons (.ix (.v 1 "value" ⟨118, 67, 118, 72⟩) (.c (.int 1) 0 ⟨118, 73, 118, 74⟩) ⟨118, 67, 118, 75⟩) .nil)) ⟨118, 46, 118, 59⟩ ⟨118, 46, 118, 76⟩) .Is (.c .none 0 ⟨118, 80, 118, 84⟩) ⟨118, 46, 118, 84⟩) .nil)) ⟨118, 15, 118, 84⟩) ⟨118, 8, 118, 84⟩) .nil) .nil ⟨117, 4, 118, 84⟩) (.cons (.iff (.cmp (.ix (.v 1 "value" ⟨119, 7, 119, 12⟩) (.c (.int 0) 0 ⟨119, 13, 119, 14⟩) ⟨119, 7, 119, 15⟩) .Eq (.g 3 "LOAD" ⟨119, 19, 119, 23⟩) ⟨119, 7, 119, 23⟩) (.cons (.re (.bo .And (.cons (.cal 1 false "are_ints" (.cons (.sl (.v 1 "value" ⟨120, 24, 120, 29⟩) (.pl (.c (.int 1) 0 ⟨120, 30, 120, 31⟩)) .nil ⟨120, 24, 120, 33⟩ ⟨120, 30, 120, 32⟩) (.cons (.c (.int 1) 0 ⟨120, 35, 120, 36⟩) (.cons (.bin (.v 2 "top" ⟨120, 38, 120, 41⟩) .Mult (.v 3 "bottom" ⟨120, 44, 120, 50⟩) ⟨120, 38, 120, 50⟩) .nil))) ⟨120, 15, 120, 23⟩ ⟨120, 15, 120, 51⟩) (.cons (.cmp (.sl (.v 1 "value" ⟨120, 56, 120, 61⟩) (.pl (.c (.int 1) 0 ⟨120, 62, 120, 63⟩)) .nil ⟨120, 56, 120, 65⟩ ⟨120, 62, 120, 64⟩) .Eq (.tup (.cons (.v 2 "top" ⟨120, 70, 120, 73⟩) (.cons (.v 3 "bottom" ⟨120, 75, 120, 81⟩) .nil)) 0 ⟨120, 69, 120, 82⟩) ⟨120, 56, 120, 82⟩) (.cons (.cmp (.v 2 "top" ⟨120, 88, 120, 91⟩) .Gt (.v 3 "bottom" ⟨120, 94, 120, 100⟩) ⟨120, 88, 120, 100⟩) .nil))) ⟨120, 15, 120, 101⟩) ⟨120, 8, 120, 101⟩) .nil) .nil ⟨119, 4, 120, 101⟩) (.cons (.iff (.bo .And (.cons (.cmp (.ix (.v 1 "value" ⟨121, 7, 121, 12⟩) (.c (.int 0) 0 ⟨121, 13, 121, 14⟩) ⟨121, 7, 121, 15⟩) .Eq (.g 4 "PAIR" ⟨121, 19, 121, 23⟩) ⟨121, 7, 121, 23⟩) (.cons (.cmp (.bi .len "len" (.cons (.v 1 "value" ⟨121, 32, 121, 37⟩) .nil) ⟨121, 28, 121, 31⟩ ⟨121, 28, 121, 38⟩) .Eq (.g 8 "THREE" ⟨121, 42, 121, 47⟩) ⟨121, 28, 121, 47⟩) .nil)) ⟨121, 7, 121, 47⟩) (.cons (.iff (.bo .Or (.cons (.nt (.cal 1 false "are_ints" (.cons (.sl (.v 1 "value" ⟨122, 24, 122, 29⟩) (.pl (.c (.int 1) 0 ⟨122, 30, 122, 31⟩)) .nil ⟨122, 24, 122, 33⟩ ⟨122, 30, 122, 32⟩) (.cons (.c (.int 0) 0 ⟨122, 35, 122, 36⟩) (.cons (.bin (.bi .len "len" (.cons (.v 0 "every" ⟨122, 42, 122, 47⟩) .nil) ⟨122, 38, 122, 41⟩ ⟨122, 38, 122, 48⟩) .Sub (.c (.int 1) 0 ⟨122, 51, 122, 52⟩) ⟨122, 38, 122, 52⟩) .nil))) ⟨122, 15, 122, 23⟩ ⟨122, 15, 122, 53⟩) ⟨122, 11, 122, 53⟩) (.cons (.cmp (.ix (.v 1 "value" ⟨122, 57, 122, 62⟩) (.c (.int 1) 0 ⟨122, 63, 122, 64⟩) ⟨122, 57, 122, 65⟩) .GtE (.ix (.v 1 "value" ⟨122, 69, 122, 74⟩) (.c (.int 2) 0 ⟨122, 75, 122, 76⟩) ⟨122, 69, 122, 77⟩) ⟨122, 57, 122, 77⟩) .nil)) ⟨122, 11, 122, 77⟩) (.cons (.re (.c (.bool false) 0 ⟨123, 19, 123, 24⟩) ⟨123, 12, 123, 24⟩) .nil) .nil ⟨122, 8, 123, 24⟩) (.cons (.re (.cmp (.cal 6 false "common" (.cons (.ix (.v 0 "every" ⟨124, 22, 124, 27⟩) (.ix (.v 1 "value" ⟨124, 28, 124, 33⟩) (.c (.int 1) 0 ⟨124, 34, 124, 35⟩) ⟨124, 28, 124, 36⟩) ⟨124, 22, 124, 37⟩) (.cons (.ix (.v 0 "every" ⟨124, 39, 124, 44⟩) (.ix (.v 1 "value" ⟨124, 45, 124, 50⟩) (.c (.int 2) 0 ⟨124, 51, 124, 52⟩) ⟨124, 45, 124, 53⟩) ⟨124, 39, 124, 54⟩) .nil)) ⟨124, 15, 124, 21⟩ ⟨124, 15, 124, 55⟩) .Eq (.c (.int 1) 0 ⟨124, 59, 124, 60⟩) ⟨124, 15, 124, 60⟩) ⟨124, 8, 124, 60⟩) .nil)) .nil ⟨121, 4, 124, 60⟩) (.cons (.iff (.bo .And (.cons (.cmp (.ix (.v 1 "value" ⟨125, 7, 125, 12⟩) (.c (.int 0) 0 ⟨125, 13, 125, 14⟩) ⟨125, 7, 125, 15⟩) .Eq (.g 6 "LOT" ⟨125, 19, 125, 22⟩) ⟨125, 7, 125, 22⟩) (.cons (.cmp (.bi .len "len" (.cons (.v 1 "value" ⟨125, 31, 125, 36⟩) .nil) ⟨125, 27, 125, 30⟩ ⟨125, 27, 125, 37⟩) .Eq (.g 8 "THREE" ⟨125, 41, 125, 46⟩) ⟨125, 27, 125, 46⟩) .nil)) ⟨125, 7, 125, 46⟩) (.cons (.iff (.bo .Or (.cons (.nt (.cal 1 false "are_ints" (.cons (.sl (.v 1 "value" ⟨126, 24, 126, 29⟩) (.pl (.c (.int 1) 0 ⟨126, 30, 126, 31⟩)) (.pl (.c (.int 2) 0 ⟨126, 32, 126, 33⟩)) ⟨126, 24, 126, 34⟩ ⟨126, 30, 126, 33⟩) (.cons (.c (.int 1) 0 ⟨126, 36, 126, 37⟩) (.cons (.g 0 "MOST_EVERY" ⟨126, 39, 126, 49⟩) .nil))) ⟨126, 15, 126, 23⟩ ⟨126, 15, 126, 50⟩) ⟨126, 11, 126, 50⟩) (.cons (.nt (.cal 1 false "are_ints" (.cons (.ix (.v 1 "value" ⟨126, 67, 126, 72⟩) (.c (.int 2) 0 ⟨126, 73, 126, 74⟩) ⟨126, 67, 126, 75⟩) (.cons (.c (.int 0) 0 ⟨126, 77, 126, 78⟩) (.cons (.bin (.bi .len "len" (.cons (.v 0 "every" ⟨126, 84, 126, 89⟩) .nil) ⟨126, 80, 126, 83⟩ ⟨126, 80, 126, 90⟩) .Sub (.c (.int 1) 0 ⟨126, 93, 126, 94⟩) ⟨126, 80, 126, 94⟩) .nil))) ⟨126, 58, 126, 66⟩ ⟨126, 58, 126, 95⟩) ⟨126, 54, 126, 95⟩) .nil)) ⟨126, 11, 126, 95⟩) (.cons (.re (.c (.bool false) 0 ⟨127, 19, 127, 24⟩) ⟨127, 12, 127, 24⟩) .nil) .nil ⟨126, 8, 127, 24⟩) (.cons (.re (.cal 15 false "is_lot" (.cons (.v 0 "every" ⟨128, 22, 128, 27⟩) (.cons (.ix (.v 1 "value" ⟨128, 29, 128, 34⟩) (.c (.int 1) 0 ⟨128, 35, 128, 36⟩) ⟨128, 29, 128, 37⟩) (.cons (.ix (.v 1 "value" ⟨128, 39, 128, 44⟩) (.c (.int 2) 0 ⟨128, 45, 128, 46⟩) ⟨128, 39, 128, 47⟩) .nil))) ⟨128, 15, 128, 21⟩ ⟨128, 15, 128, 48⟩) ⟨128, 8, 128, 48⟩) .nil)) .nil ⟨125, 4, 128, 48⟩) (.cons (.xs (.Try [(.Return (some (.Compare (.Name "value" ⟨130, 15, 130, 20⟩) [(PySem.CmpOp.Eq), (PySem.CmpOp.Eq)] [(.Tuple [(.Name "TRIED" ⟨130, 25, 130, 30⟩)] 0 ⟨130, 24, 130, 32⟩), (.Call (.Name "told_racking" ⟨130, 36, 130, 48⟩) [(.Name "every" ⟨130, 49, 130, 54⟩)] [] ⟨130, 36, 130, 55⟩)] ⟨130, 15, 130, 55⟩)) ⟨130, 8, 130, 55⟩)] [(.ExceptHandler (some (.Name "TooMany" ⟨131, 11, 131, 18⟩)) none [(.Return (some (.Constant (PySem.Const.bool false) 0 ⟨132, 15, 132, 20⟩)) ⟨132, 8, 132, 20⟩)] ⟨131, 4, 132, 20⟩)] [] [] ⟨129, 4, 132, 20⟩)) .nil))))))))
/-- _law_pot(script, place) -/
def t__law_pot : T := (.cons (.as (.v 2 "cell" ⟨135, 4, 135, 8⟩) (.ite (.cmp (.v 1 "place" ⟨135, 28, 135, 33⟩) .Lt (.bi .len "len" (.cons (.v 0 "script" ⟨135, 40, 135, 46⟩) .nil) ⟨135, 36, 135, 39⟩ ⟨135, 36, 135, 47⟩) ⟨135, 28, 135, 47⟩) (.ix (.v 0 "script" ⟨135, 11, 135, 17⟩) (.v 1 "place" ⟨135, 18, 135, 23⟩) ⟨135, 11, 135, 24⟩) (.bin (.bin (.bin (.bi .int "int" (.cons (.bi .sum "sum" (.cons (.sl (.v 0 "script" ⟨135, 61, 135, 67⟩) .nil (.pl (.c (.int 1) 0 ⟨135, 69, 135, 70⟩)) ⟨135, 61, 135, 71⟩ ⟨135, 68, 135, 70⟩) .nil) ⟨135, 57, 135, 60⟩ ⟨135, 57, 135, 72⟩) .nil) ⟨135, 53, 135, 56⟩ ⟨135, 53, 135, 73⟩) .Mod (.c (.int 1000253) 0 ⟨135, 76, 135, 83⟩) ⟨135, 53, 135, 83⟩) .Add (.bin (.c (.int 6473) 0 ⟨135, 86, 135, 90⟩) .Mult (.v 1 "place" ⟨135, 93, 135, 98⟩) ⟨135, 86, 135, 98⟩) ⟨135, 53, 135, 98⟩) .Add (.c (.int 4001) 0 ⟨135, 101, 135, 105⟩) ⟨135, 53, 135, 105⟩) ⟨135, 11, 135, 105⟩) ⟨135, 4, 135, 105⟩) (.cons (.as (.v 3 "own" ⟨136, 4, 136, 7⟩) (.bin (.bin (.bi .int "int" (.cons (.bi .abs "abs" (.cons (.v 2 "cell" ⟨136, 18, 136, 22⟩) .nil) ⟨136, 14, 136, 17⟩ ⟨136, 14, 136, 23⟩) .nil) ⟨136, 10, 136, 13⟩ ⟨136, 10, 136, 24⟩) .Mod (.bin (.bin (.c (.int 10) 0 ⟨136, 28, 136, 30⟩) .Pow (.c (.int 60) 0 ⟨136, 34, 136, 36⟩) ⟨136, 28, 136, 36⟩) .Pow (.c (.int 5) 0 ⟨136, 41, 136, 42⟩) ⟨136, 27, 136, 42⟩) ⟨136, 10, 136, 42⟩) .Mult (.bi .int "int" (.cons (.cmp (.bi .abs "abs" (.cons (.v 2 "cell" ⟨136, 53, 136, 57⟩) .nil) ⟨136, 49, 136, 52⟩ ⟨136, 49, 136, 58⟩) .GtE (.bin (.c (.int 10) 0 ⟨136, 62, 136, 64⟩) .Pow (.c (.int 18) 0 ⟨136, 68, 136, 70⟩) ⟨136, 62, 136, 70⟩) ⟨136, 49, 136, 70⟩) .nil) ⟨136, 45, 136, 48⟩ ⟨136, 45, 136, 71⟩) ⟨136, 10, 136, 71⟩) ⟨136, 4, 136, 71⟩) (.cons (.as (.v 4 "small" ⟨137, 4, 137, 9⟩) (.bin (.bi .int "int" (.cons (.v 2 "cell" ⟨137, 16, 137, 20⟩) .nil) ⟨137, 12, 137, 15⟩ ⟨137, 12, 137, 21⟩) .Mod (.c (.int 2305843009213693951) 0 ⟨137, 24, 137, 43⟩) ⟨137, 12, 137, 43⟩) ⟨137, 4, 137, 43⟩) (.cons (.re (.lst true (.cons (.v 3 "own" ⟨138, 12, 138, 15⟩) (.cons (.bin (.bi .int "int" (.cons (.bin (.bin (.bin (.v 4 "small" ⟨138, 21, 138, 26⟩) .Mult (.c (.int 93001) 0 ⟨138, 29, 138, 34⟩) ⟨138, 21, 138, 34⟩) .Add (.bin (.bin (.c (.int 13007) 0 ⟨138, 37, 138, 42⟩) .Mult (.v 1 "place" ⟨138, 45, 138, 50⟩) ⟨138, 37, 138, 50⟩) .Mult (.v 1 "place" ⟨138, 53, 138, 58⟩) ⟨138, 37, 138, 58⟩) ⟨138, 21, 138, 58⟩) .Add (.c (.int 3511) 0 ⟨138, 61, 138, 65⟩) ⟨138, 21, 138, 65⟩) .nil) ⟨138, 17, 138, 20⟩ ⟨138, 17, 138, 66⟩) .Mod (.c (.int 2305843009213693921) 0 ⟨138, 69, 138, 88⟩) ⟨138, 17, 138, 88⟩) (.cons (.c (.int 0) 0 ⟨138, 90, 138, 91⟩) .nil))) ⟨138, 11, 138, 92⟩) ⟨138, 4, 138, 92⟩) .nil))))
/-- _law_take(pot, upto) -/
def t__law_take : T := (.cons (.iff (.cmp (.ix (.v 0 "pot" ⟨140, 7, 140, 10⟩) (.c (.int 0) 0 ⟨140, 11, 140, 12⟩) ⟨140, 7, 140, 13⟩) .Gt (.c (.int 0) 0 ⟨140, 16, 140, 17⟩) ⟨140, 7, 140, 17⟩) (.cons (.as (.v 2 "digit" ⟨141, 8, 141, 13⟩) (.bin (.bi .int "int" (.cons (.ix (.v 0 "pot" ⟨141, 20, 141, 23⟩) (.c (.int 0) 0 ⟨141, 24, 141, 25⟩) ⟨141, 20, 141, 26⟩) .nil) ⟨141, 16, 141, 19⟩ ⟨141, 16, 141, 27⟩) .Mod (.v 1 "upto" ⟨141, 30, 141, 34⟩) ⟨141, 16, 141, 34⟩) ⟨141, 8, 141, 34⟩) (.cons (.as (.ix (.v 0 "pot" ⟨142, 8, 142, 11⟩) (.c (.int 0) 0 ⟨142, 12, 142, 13⟩) ⟨142, 8, 142, 14⟩) (.bin (.ix (.v 0 "pot" ⟨142, 17, 142, 20⟩) (.c (.int 0) 0 ⟨142, 21, 142, 22⟩) ⟨142, 17, 142, 23⟩) .FloorDiv (.v 1 "upto" ⟨142, 27, 142, 31⟩) ⟨142, 17, 142, 31⟩) ⟨142, 8, 142, 31⟩) (.cons (.re (.v 2 "digit" ⟨143, 15, 143, 20⟩) ⟨143, 8, 143, 20⟩) .nil))) .nil ⟨140, 4, 143, 20⟩) (.cons (.as (.ix (.v 0 "pot" ⟨144, 4, 144, 7⟩) (.c (.int 2) 0 ⟨144, 8, 144, 9⟩) ⟨144, 4, 144, 10⟩) (.bin (.ix (.v 0 "pot" ⟨144, 13, 144, 16⟩) (.c (.int 2) 0 ⟨144, 17, 144, 18⟩) ⟨144, 13, 144, 19⟩) .Add (.c (.int 1) 0 ⟨144, 22, 144, 23⟩) ⟨144, 13, 144, 23⟩) ⟨144, 4, 144, 23⟩) (.cons (.as (.v 3 "prime" ⟨145, 4, 145, 9⟩) (.ix (.lst false (.cons (.c (.int 2147483647) 0 ⟨145, 13, 145, 23⟩) (.cons (.c (.int 2147483629) 0 ⟨145, 25, 145, 35⟩) (.cons (.c (.int 2147483587) 0 ⟨145, 37, 145, 47⟩) (.cons (.c (.int 2147483579) 0 ⟨145, 49, 145, 59⟩) (.cons (.c (.int 2147483563) 0 ⟨145, 61, 145, 71⟩) .nil))))) ⟨145, 12, 145, 72⟩) (.bin (.bi .int "int" (.cons (.ix (.v 0 "pot" ⟨145, 77, 145, 80⟩) (.c (.int 2) 0 ⟨145, 81, 145, 82⟩) ⟨145, 77, 145, 83⟩) .nil) ⟨145, 73, 145, 76⟩ ⟨145, 73, 145, 84⟩) .Mod (.c (.int 5) 0 ⟨145, 87, 145, 88⟩) ⟨145, 73, 145, 88⟩) ⟨145, 12, 145, 89⟩) ⟨145, 4, 145, 89⟩) (.cons (.as (.v 4 "blend" ⟨146, 4, 146, 9⟩) (.bin (.bi .int "int" (.cons (.bin (.bi .int "int" (.cons (.bin (.bin (.ix (.v 0 "pot" ⟨146, 20, 146, 23⟩) (.c (.int 1) 0 ⟨146, 24, 146, 25⟩) ⟨146, 20, 146, 26⟩) .Add (.bin (.bin (.c (.int 103801) 0 ⟨146, 29, 146, 35⟩) .Mult (.ix (.v 0 "pot" ⟨146, 38, 146, 41⟩) (.c (.int 2) 0 ⟨146, 42, 146, 43⟩) ⟨146, 38, 146, 44⟩) ⟨146, 29, 146, 44⟩) .Mult (.ix (.v 0 "pot" ⟨146, 47, 146, 50⟩) (.c (.int 2) 0 ⟨146, 51, 146, 52⟩) ⟨146, 47, 146, 53⟩) ⟨146, 29, 146, 53⟩) ⟨146, 20, 146, 53⟩) .Add (.c (.int 4001) 0 ⟨146, 56, 146, 60⟩) ⟨146, 20, 146, 60⟩) .nil) ⟨146, 16, 146, 19⟩ ⟨146, 16, 146, 61⟩) .Pow (.c (.int 3) 0 ⟨146, 65, 146, 66⟩) ⟨146, 16, 146, 66⟩) .nil) ⟨146, 12, 146, 15⟩ ⟨146, 12, 146, 67⟩) .Mod (.v 3 "prime" ⟨146, 70, 146, 75⟩) ⟨146, 12, 146, 75⟩) ⟨146, 4, 146, 75⟩) (.cons (.as (.v 4 "blend" ⟨147, 4, 147, 9⟩) (.bin (.bi .int "int" (.cons (.bin (.v 4 "blend" ⟨147, 16, 147, 21⟩) .Mult (.bin (.bin (.bi .int "int" (.cons (.v 4 "blend" ⟨147, 29, 147, 34⟩) .nil) ⟨147, 25, 147, 28⟩ ⟨147, 25, 147, 35⟩) .Mod (.c (.int 13063) 0 ⟨147, 38, 147, 43⟩) ⟨147, 25, 147, 43⟩) .Add (.bin (.c (.int 431) 0 ⟨147, 46, 147, 49⟩) .Mult (.ix (.v 0 "pot" ⟨147, 52, 147, 55⟩) (.c (.int 2) 0 ⟨147, 56, 147, 57⟩) ⟨147, 52, 147, 58⟩) ⟨147, 46, 147, 58⟩) ⟨147, 25, 147, 58⟩) ⟨147, 16, 147, 59⟩) .nil) ⟨147, 12, 147, 15⟩ ⟨147, 12, 147, 60⟩) .Mod (.c (.int 2305843009213693907) 0 ⟨147, 63, 147, 82⟩) ⟨147, 12, 147, 82⟩) ⟨147, 4, 147, 82⟩) (.cons (.re (.bin (.bi .int "int" (.cons (.bin (.v 4 "blend" ⟨148, 15, 148, 20⟩) .FloorDiv (.c (.int 269) 0 ⟨148, 24, 148, 27⟩) ⟨148, 15, 148, 27⟩) .nil) ⟨148, 11, 148, 14⟩ ⟨148, 11, 148, 28⟩) .Mod (.v 1 "upto" ⟨148, 31, 148, 35⟩) ⟨148, 11, 148, 35⟩) ⟨148, 4, 148, 35⟩) .nil))))))
/-- _law_of(pot, some) -/
def t__law_of : T := (.cons (.re (.ix (.v 1 "some" ⟨150, 11, 150, 15⟩) (.cal 18 false "_law_take" (.cons (.v 0 "pot" ⟨150, 26, 150, 29⟩) (.cons (.bi .len "len" (.cons (.v 1 "some" ⟨150, 35, 150, 39⟩) .nil) ⟨150, 31, 150, 34⟩ ⟨150, 31, 150, 40⟩) .nil)) ⟨150, 16, 150, 25⟩ ⟨150, 16, 150, 41⟩) ⟨150, 11, 150, 42⟩) ⟨150, 4, 150, 42⟩) .nil)
/-- _law_cells(script, most) -/
def t__law_cells : T := (.cons (.re (.lrg "list" (.cons (.bi .max "max" (.cons (.c (.int 1) 0 ⟨152, 26, 152, 27⟩) (.cons (.bi .min "min" (.cons (.v 1 "most" ⟨152, 33, 152, 37⟩) (.cons (.bi .len "len" (.cons (.v 0 "script" ⟨152, 43, 152, 49⟩) .nil) ⟨152, 39, 152, 42⟩ ⟨152, 39, 152, 50⟩) .nil)) ⟨152, 29, 152, 32⟩ ⟨152, 29, 152, 51⟩) .nil)) ⟨152, 22, 152, 25⟩ ⟨152, 22, 152, 52⟩) .nil) ⟨152, 11, 152, 15⟩ ⟨152, 16, 152, 21⟩ ⟨152, 16, 152, 53⟩ ⟨152, 11, 152, 54⟩) ⟨152, 4, 152, 54⟩) .nil)
/-- _law_some(pot, pool, many) -/
def t__law_some : T := (.cons (.pa (.cons (.v 3 "rests" ⟨154, 4, 154, 9⟩) (.cons (.v 4 "found" ⟨154, 11, 154, 16⟩) .nil)) (.cons (.lsm (.cons (.v 1 "pool" ⟨154, 25, 154, 29⟩) .nil) ⟨154, 20, 154, 24⟩ ⟨154, 20, 154, 30⟩) (.cons (.lst true .nil ⟨154, 32, 154, 34⟩) .nil)) 0 0 ⟨154, 4, 154, 16⟩ ⟨154, 19, 154, 35⟩ ⟨154, 4, 154, 35⟩) (.cons (.fo (.v 5 "lap" ⟨155, 8, 155, 11⟩) (.rg (.cons (.v 2 "many" ⟨155, 21, 155, 25⟩) .nil) ⟨155, 15, 155, 20⟩ ⟨155, 15, 155, 26⟩) (.cons (.exs (.app (.v 4 "found" ⟨156, 8, 156, 13⟩) (.met .pop (.v 3 "rests" ⟨156, 21, 156, 26⟩) (.cons (.cal 18 false "_law_take" (.cons (.v 0 "pot" ⟨156, 41, 156, 44⟩) (.cons (.bi .len "len" (.cons (.v 3 "rests" ⟨156, 50, 156, 55⟩) .nil) ⟨156, 46, 156, 49⟩ ⟨156, 46, 156, 56⟩) .nil)) ⟨156, 31, 156, 40⟩ ⟨156, 31, 156, 57⟩) .nil) ⟨156, 21, 156, 30⟩ ⟨156, 21, 156, 58⟩) ⟨156, 8, 156, 20⟩ ⟨156, 8, 156, 59⟩) ⟨156, 8, 156, 59⟩) .nil) ⟨155, 4, 156, 59⟩) (.cons (.re (.v 4 "found" ⟨157, 11, 157, 16⟩) ⟨157, 4, 157, 16⟩) .nil)))
/-- _law_gcd(one, other) -/
def t__law_gcd : T := (.cons (.wh (.cmp (.v 1 "other" ⟨159, 10, 159, 15⟩) .NotEq (.c (.int 0) 0 ⟨159, 19, 159, 20⟩) ⟨159, 10, 159, 20⟩) (.cons (.pa (.cons (.v 0 "one" ⟨160, 8, 160, 11⟩) (.cons (.v 1 "other" ⟨160, 13, 160, 18⟩) .nil)) (.cons (.v 1 "other" ⟨160, 22, 160, 27⟩) (.cons (.bin (.v 0 "one" ⟨160, 29, 160, 32⟩) .Mod (.v 1 "other" ⟨160, 35, 160, 40⟩) ⟨160, 29, 160, 40⟩) .nil)) 0 0 ⟨160, 8, 160, 18⟩ ⟨160, 21, 160, 41⟩ ⟨160, 8, 160, 41⟩) .nil) ⟨159, 4, 160, 41⟩) (.cons (.re (.v 0 "one" ⟨161, 11, 161, 14⟩) ⟨161, 4, 161, 14⟩) .nil))
/-- _law_meet(every, begun) -/
def t__law_meet : T := (.cons (.fo (.v 2 "at" ⟨163, 8, 163, 10⟩) (.rg (.cons (.bi .len "len" (.cons (.v 0 "every" ⟨163, 24, 163, 29⟩) .nil) ⟨163, 20, 163, 23⟩ ⟨163, 20, 163, 30⟩) .nil) ⟨163, 14, 163, 19⟩ ⟨163, 14, 163, 31⟩) (.cons (.fo (.v 3 "spot" ⟨164, 12, 164, 16⟩) (.rg (.cons (.v 2 "at" ⟨164, 26, 164, 28⟩) .nil) ⟨164, 20, 164, 25⟩ ⟨164, 20, 164, 29⟩) (.cons (.iff (.cmp (.bin (.bin (.ix (.v 1 "begun" ⟨165, 16, 165, 21⟩) (.v 2 "at" ⟨165, 22, 165, 24⟩) ⟨165, 16, 165, 25⟩) .Sub (.ix (.v 1 "begun" ⟨165, 28, 165, 33⟩) (.v 3 "spot" ⟨165, 34, 165, 38⟩) ⟨165, 28, 165, 39⟩) ⟨165, 16, 165, 39⟩) .Mod (.cal 22 false "_law_gcd" (.cons (.ix (.v 0 "every" ⟨165, 52, 165, 57⟩) (.v 2 "at" ⟨165, 58, 165, 60⟩) ⟨165, 52, 165, 61⟩) (.cons (.ix (.v 0 "every" ⟨165, 63, 165, 68⟩) (.v 3 "spot" ⟨165, 69, 165, 73⟩) ⟨165, 63, 165, 74⟩) .nil)) ⟨165, 43, 165, 51⟩ ⟨165, 43, 165, 75⟩) ⟨165, 15, 165, 75⟩) .Eq (.c (.int 0) 0 ⟨165, 79, 165, 80⟩) ⟨165, 15, 165, 80⟩) (.cons (.re (.c (.bool true) 0 ⟨166, 23, 166, 27⟩) ⟨166, 16, 166, 27⟩) .nil) .nil ⟨165, 12, 166, 27⟩) .nil) ⟨164, 8, 166, 27⟩) .nil) ⟨163, 4, 166, 27⟩) (.cons (.re (.c (.bool false) 0 ⟨167, 11, 167, 16⟩) ⟨167, 4, 167, 16⟩) .nil))
/-- _law_right(pot) -/
def t__law_right : T := (.cons (.fo (.v 1 "lap" ⟨169, 8, 169, 11⟩) (.rg (.cons (.c (.int 8) 0 ⟨169, 21, 169, 22⟩) .nil) ⟨169, 15, 169, 20⟩ ⟨169, 15, 169, 23⟩) (.cons (.as (.v 2 "step" ⟨170, 8, 170, 12⟩) (.cal 19 false "_law_of" (.cons (.v 0 "pot" ⟨170, 23, 170, 26⟩) (.cons (.lst false (.cons (.c (.int 1) 0 ⟨170, 29, 170, 30⟩) (.cons (.c (.int 2) 0 ⟨170, 32, 170, 33⟩) (.cons (.c (.int 2) 0 ⟨170, 35, 170, 36⟩) (.cons (.c (.int 3) 0 ⟨170, 38, 170, 39⟩) .nil)))) ⟨170, 28, 170, 40⟩) .nil)) ⟨170, 15, 170, 22⟩ ⟨170, 15, 170, 41⟩) ⟨170, 8, 170, 41⟩) (.cons (.as (.v 4 "every" ⟨171, 8, 171, 13⟩) (.bi .tuple "tuple" (.cons (.cp false (.bin (.v 2 "step" ⟨171, 23, 171, 27⟩) .Mult (.bin (.c (.int 1) 0 ⟨171, 31, 171, 32⟩) .Add (.bi .int "int" (.cons (.cal 18 false "_law_take" (.cons (.v 0 "pot" ⟨171, 49, 171, 52⟩) (.cons (.bin (.c (.int 12) 0 ⟨171, 54, 171, 56⟩) .FloorDiv (.v 2 "step" ⟨171, 60, 171, 64⟩) ⟨171, 54, 171, 64⟩) .nil)) ⟨171, 39, 171, 48⟩ ⟨171, 39, 171, 65⟩) .nil) ⟨171, 35, 171, 38⟩ ⟨171, 35, 171, 66⟩) ⟨171, 31, 171, 66⟩) ⟨171, 23, 171, 67⟩) (.v 3 "cask" ⟨171, 72, 171, 76⟩) (.rg (.cons (.bin (.c (.int 1) 0 ⟨171, 86, 171, 87⟩) .Add (.cal 18 false "_law_take" (.cons (.v 0 "pot" ⟨171, 100, 171, 103⟩) (.cons (.c (.int 4) 0 ⟨171, 105, 171, 106⟩) .nil)) ⟨171, 90, 171, 99⟩ ⟨171, 90, 171, 107⟩) ⟨171, 86, 171, 107⟩) .nil) ⟨171, 80, 171, 85⟩ ⟨171, 80, 171, 108⟩) .nil ⟨.function, [(".0", .local), ("cask", .local), ("int", .globalImplicit), ("_law_take", .globalImplicit), ("pot", .free), ("step", .free)], false, false, []⟩ [("cask", 3)] ⟨171, 22, 171, 109⟩) .nil) ⟨171, 16, 171, 21⟩ ⟨171, 16, 171, 110⟩) ⟨171, 8, 171, 110⟩) (.cons (.as (.v 6 "begun" ⟨172, 8, 172, 13⟩) (.bi .tuple "tuple" (.cons (.cp false (.bi .int "int" (.cons (.cal 18 false "_law_take" (.cons (.v 0 "pot" ⟨172, 37, 172, 40⟩) (.cons (.v 5 "days" ⟨172, 42, 172, 46⟩) .nil)) ⟨172, 27, 172, 36⟩ ⟨172, 27, 172, 47⟩) .nil) ⟨172, 23, 172, 26⟩ ⟨172, 23, 172, 48⟩) (.v 5 "days" ⟨172, 53, 172, 57⟩) (.pl (.v 4 "every" ⟨172, 61, 172, 66⟩)) .nil ⟨.function, [(".0", .local), ("days", .local), ("int", .globalImplicit), ("_law_take", .globalImplicit), ("pot", .free)], false, false, []⟩ [("days", 5)] ⟨172, 22, 172, 67⟩) .nil) ⟨172, 16, 172, 21⟩ ⟨172, 16, 172, 68⟩) ⟨172, 8, 172, 68⟩) (.cons (.iff (.cmp (.cmp (.cal 8 false "first_meeting" (.cons (.v 4 "every" ⟨173, 26, 173, 31⟩) (.cons (.v 6 "begun" ⟨173, 33, 173, 38⟩) .nil)) ⟨173, 12, 173, 25⟩ ⟨173, 12, 173, 39⟩) .IsNot (.c .none 0 ⟨173, 47, 173, 51⟩) ⟨173, 12, 173, 51⟩) .NotEq (.cal 23 false "_law_meet" (.cons (.v 4 "every" ⟨173, 66, 173, 71⟩) (.cons (.v 6 "begun" ⟨173, 73, 173, 78⟩) .nil)) ⟨173, 56, 173, 65⟩ ⟨173, 56, 173, 79⟩) ⟨173, 11, 173, 79⟩) (.cons (.re (.c (.bool false) 0 ⟨174, 19, 174, 24⟩) ⟨174, 12, 174, 24⟩) .nil) .nil ⟨173, 8, 174, 24⟩) (.cons (.as (.v 7 "on" ⟨175, 8, 175, 10⟩) (.bi .int "int" (.cons (.cal 18 false "_law_take" (.cons (.v 0 "pot" ⟨175, 27, 175, 30⟩) (.cons (.c (.int 99) 0 ⟨175, 32, 175, 34⟩) .nil)) ⟨175, 17, 175, 26⟩ ⟨175, 17, 175, 35⟩) .nil) ⟨175, 13, 175, 16⟩ ⟨175, 13, 175, 36⟩) ⟨175, 8, 175, 36⟩) (.cons (.as (.v 8 "moved" ⟨176, 8, 176, 13⟩) (.bi .tuple "tuple" (.cons (.cp false (.bin (.bin (.v 20 "day" ⟨176, 24, 176, 27⟩) .Add (.v 7 "on" ⟨176, 30, 176, 32⟩) ⟨176, 24, 176, 32⟩) .Mod (.v 5 "days" ⟨176, 36, 176, 40⟩) ⟨176, 23, 176, 40⟩) (.tup (.cons (.v 20 "day" ⟨176, 45, 176, 48⟩) (.cons (.v 5 "days" ⟨176, 50, 176, 54⟩) .nil)) 0 ⟨176, 45, 176, 54⟩) (.zp (.cons (.v 6 "begun" ⟨176, 62, 176, 67⟩) (.cons (.v 4 "every" ⟨176, 69, 176, 74⟩) .nil)) ⟨176, 58, 176, 61⟩ ⟨176, 58, 176, 75⟩) .nil ⟨.function, [(".0", .local), ("day", .local), ("days", .local), ("on", .free)], false, false, []⟩ [("day", 20), ("days", 5)] ⟨176, 22, 176, 76⟩) .nil) ⟨176, 16, 176, 21⟩ ⟨176, 16, 176, 77⟩) ⟨176, 8, 176, 77⟩) (.cons (.iff (.cmp (.cal 23 false "_law_meet" (.cons (.v 4 "every" ⟨177, 21, 177, 26⟩) (.cons (.v 8 "moved" ⟨177, 28, 177, 33⟩) .nil)) ⟨177, 11, 177, 20⟩ ⟨177, 11, 177, 34⟩) .NotEq (.cal 23 false "_law_meet" (.cons (.v 4 "every" ⟨177, 48, 177, 53⟩) (.cons (.v 6 "begun" ⟨177, 55, 177, 60⟩) .nil)) ⟨177, 38, 177, 47⟩ ⟨177, 38, 177, 61⟩) ⟨177, 11, 177, 61⟩) (.cons (.re (.c (.bool false) 0 ⟨178, 19, 178, 24⟩) ⟨178, 12, 178, 24⟩) .nil) .nil ⟨177, 8, 178, 24⟩) (.cons (.iff (.cmp (.cmp (.cal 8 false "first_meeting" (.cons (.v 4 "every" ⟨179, 26, 179, 31⟩) (.cons (.v 8 "moved" ⟨179, 33, 179, 38⟩) .nil)) ⟨179, 12, 179, 25⟩ ⟨179, 12, 179, 39⟩) .Is (.c .none 0 ⟨179, 43, 179, 47⟩) ⟨179, 12, 179, 47⟩) .NotEq (.cmp (.cal 8 false "first_meeting" (.cons (.v 4 "every" ⟨179, 67, 179, 72⟩) (.cons (.v 6 "begun" ⟨179, 74, 179, 79⟩) .nil)) ⟨179, 53, 179, 66⟩ ⟨179, 53, 179, 80⟩) .Is (.c .none 0 ⟨179, 84, 179, 88⟩) ⟨179, 53, 179, 88⟩) ⟨179, 11, 179, 89⟩) (.cons (.re (.c (.bool false) 0 ⟨180, 19, 180, 24⟩) ⟨180, 12, 180, 24⟩) .nil) .nil ⟨179, 8, 180, 24⟩) (.cons (.as (.v 9 "told" ⟨181, 8, 181, 12⟩) (.cal 14 false "racking" (.cons (.v 4 "every" ⟨181, 23, 181, 28⟩) .nil) ⟨181, 15, 181, 22⟩ ⟨181, 15, 181, 29⟩) ⟨181, 8, 181, 29⟩) (.cons (.as (.v 11 "order" ⟨182, 8, 182, 13⟩) (.cp false (.bi .int "int" (.cons (.v 10 "at" ⟨182, 21, 182, 23⟩) .nil) ⟨182, 17, 182, 20⟩ ⟨182, 17, 182, 24⟩) (.v 10 "at" ⟨182, 29, 182, 31⟩) (.pl (.cal 21 false "_law_some" (.cons (.v 0 "pot" ⟨182, 45, 182, 48⟩) (.cons (.lrg "list" (.cons (.bi .len "len" (.cons (.v 4 "every" ⟨182, 65, 182, 70⟩) .nil) ⟨182, 61, 182, 64⟩ ⟨182, 61, 182, 71⟩) .nil) ⟨182, 50, 182, 54⟩ ⟨182, 55, 182, 60⟩ ⟨182, 55, 182, 72⟩ ⟨182, 50, 182, 73⟩) (.cons (.bi .len "len" (.cons (.v 4 "every" ⟨182, 79, 182, 84⟩) .nil) ⟨182, 75, 182, 78⟩ ⟨182, 75, 182, 85⟩) .nil))) ⟨182, 35, 182, 44⟩ ⟨182, 35, 182, 86⟩)) .nil ⟨.function, [(".0", .local), ("at", .local), ("int", .globalImplicit)], false, false, []⟩ [("at", 10)] ⟨182, 16, 182, 87⟩) ⟨182, 8, 182, 87⟩) (.cons (.iff (.cmp (.cmp (.ix (.cal 14 false "racking" (.cons (.bi .tuple "tuple" (.cons (.cp false (.ix (.v 4 "every" ⟨183, 27, 183, 32⟩) (.v 10 "at" ⟨183, 33, 183, 35⟩) ⟨183, 27, 183, 36⟩) (.v 10 "at" ⟨183, 41, 183, 43⟩) (.pl (.v 11 "order" ⟨183, 47, 183, 52⟩)) .nil ⟨.function, [(".0", .local), ("at", .local), ("every", .free)], false, false, []⟩ [("at", 10)] ⟨183, 26, 183, 53⟩) .nil) ⟨183, 20, 183, 25⟩ ⟨183, 20, 183, 54⟩) .nil) ⟨183, 12, 183, 19⟩ ⟨183, 12, 183, 55⟩) (.c (.int 0) 0 ⟨183, 56, 183, 57⟩) ⟨183, 12, 183, 58⟩) .Eq (.c (.str "begin") 0 ⟨183, 62, 183, 69⟩) ⟨183, 12, 183, 69⟩) .NotEq (.cmp (.ix (.v 9 "told" ⟨183, 75, 183, 79⟩) (.c (.int 0) 0 ⟨183, 80, 183, 81⟩) ⟨183, 75, 183, 82⟩) .Eq (.c (.str "begin") 0 ⟨183, 86, 183, 93⟩) ⟨183, 75, 183, 93⟩) ⟨183, 11, 183, 94⟩) (.cons (.re (.c (.bool false) 0 ⟨184, 19, 184, 24⟩) ⟨184, 12, 184, 24⟩) .nil) .nil ⟨183, 8, 184, 24⟩) (.cons (.iff (.cmp (.ix (.v 9 "told" ⟨185, 11, 185, 15⟩) (.c (.int 0) 0 ⟨185, 16, 185, 17⟩) ⟨185, 11, 185, 18⟩) .NotEq (.c (.str "begin") 0 ⟨185, 22, 185, 29⟩) ⟨185, 11, 185, 29⟩) (.cons (.iff (.cmp (.ix (.cal 14 false "racking" (.cons (.bin (.v 4 "every" ⟨186, 23, 186, 28⟩) .Add (.tup (.cons (.bin (.c (.int 1) 0 ⟨186, 32, 186, 33⟩) .Add (.bi .int "int" (.cons (.cal 18 false "_law_take" (.cons (.v 0 "pot" ⟨186, 50, 186, 53⟩) (.cons (.c (.int 11) 0 ⟨186, 55, 186, 57⟩) .nil)) ⟨186, 40, 186, 49⟩ ⟨186, 40, 186, 58⟩) .nil) ⟨186, 36, 186, 39⟩ ⟨186, 36, 186, 59⟩) ⟨186, 32, 186, 59⟩) .nil) 0 ⟨186, 31, 186, 61⟩) ⟨186, 23, 186, 61⟩) .nil) ⟨186, 15, 186, 22⟩ ⟨186, 15, 186, 62⟩) (.c (.int 0) 0 ⟨186, 63, 186, 64⟩) ⟨186, 15, 186, 65⟩) .Eq (.c (.str "begin") 0 ⟨186, 69, 186, 76⟩) ⟨186, 15, 186, 76⟩) (.cons (.re (.c (.bool false) 0 ⟨187, 23, 187, 28⟩) ⟨187, 16, 187, 28⟩) .nil) .nil ⟨186, 12, 187, 28⟩) (.cons (.ct ⟨188, 12, 188, 20⟩) .nil)) .nil ⟨185, 8, 188, 20⟩) (.cons (.pa (.cons (.v 5 "days" ⟨189, 8, 189, 12⟩) (.cons (.v 10 "at" ⟨189, 14, 189, 16⟩) .nil)) (.cons (.ix (.v 9 "told" ⟨189, 20, 189, 24⟩) (.c (.int 1) 0 ⟨189, 25, 189, 26⟩) ⟨189, 20, 189, 27⟩) (.cons (.bi .int "int" (.cons (.cal 18 false "_law_take" (.cons (.v 0 "pot" ⟨189, 43, 189, 46⟩) (.cons (.bi .len "len" (.cons (.v 4 "every" ⟨189, 52, 189, 57⟩) .nil) ⟨189, 48, 189, 51⟩ ⟨189, 48, 189, 58⟩) .nil)) ⟨189, 33, 189, 42⟩ ⟨189, 33, 189, 59⟩) .nil) ⟨189, 29, 189, 32⟩ ⟨189, 29, 189, 60⟩) .nil)) 0 0 ⟨189, 8, 189, 16⟩ ⟨189, 19, 189, 61⟩ ⟨189, 8, 189, 61⟩) (.cons (.iff (.cal 23 false "_law_meet" (.cons (.v 4 "every" ⟨190, 21, 190, 26⟩) (.cons (.v 5 "days" ⟨190, 28, 190, 32⟩) .nil)) ⟨190, 11, 190, 20⟩ ⟨190, 11, 190, 33⟩) (.cons (.re (.c (.bool false) 0 ⟨191, 19, 191, 24⟩) ⟨191, 12, 191, 24⟩) .nil) .nil ⟨190, 8, 191, 24⟩) (.cons (.as (.v 12 "less" ⟨192, 8, 192, 12⟩) (.bin (.sl (.v 4 "every" ⟨192, 15, 192, 20⟩) .nil (.pl (.v 10 "at" ⟨192, 22, 192, 24⟩)) ⟨192, 15, 192, 25⟩ ⟨192, 21, 192, 24⟩) .Add (.sl (.v 4 "every" ⟨192, 28, 192, 33⟩) (.pl (.bin (.v 10 "at" ⟨192, 34, 192, 36⟩) .Add (.c (.int 1) 0 ⟨192, 39, 192, 40⟩) ⟨192, 34, 192, 40⟩)) .nil ⟨192, 28, 192, 42⟩ ⟨192, 34, 192, 41⟩) ⟨192, 15, 192, 42⟩) ⟨192, 8, 192, 42⟩) (.cons (.iff (.bo .And (.cons (.cmp (.v 12 "less" ⟨193, 11, 193, 15⟩) .NotEq (.tup .nil 0 ⟨193, 19, 193, 21⟩) ⟨193, 11, 193, 21⟩) (.cons (.cmp (.ix (.cal 14 false "racking" (.cons (.v 12 "less" ⟨193, 34, 193, 38⟩) .nil) ⟨193, 26, 193, 33⟩ ⟨193, 26, 193, 39⟩) (.c (.int 0) 0 ⟨193, 40, 193, 41⟩) ⟨193, 26, 193, 42⟩) .NotEq (.c (.str "begin") 0 ⟨193, 46, 193, 53⟩) ⟨193, 26, 193, 53⟩) .nil)) ⟨193, 11, 193, 53⟩) (.cons (.re (.c (.bool false) 0 ⟨194, 19, 194, 24⟩) ⟨194, 12, 194, 24⟩) .nil) .nil ⟨193, 8, 194, 24⟩) (.cons (.as (.v 13 "half" ⟨195, 8, 195, 12⟩) (.bin (.bin (.sl (.v 4 "every" ⟨195, 15, 195, 20⟩) .nil (.pl (.v 10 "at" ⟨195, 22, 195, 24⟩)) ⟨195, 15, 195, 25⟩ ⟨195, 21, 195, 24⟩) .Add (.tup (.cons (.bin (.c (.int 2) 0 ⟨195, 29, 195, 30⟩) .Mult (.ix (.v 4 "every" ⟨195, 33, 195, 38⟩) (.v 10 "at" ⟨195, 39, 195, 41⟩) ⟨195, 33, 195, 42⟩) ⟨195, 29, 195, 42⟩) .nil) 0 ⟨195, 28, 195, 44⟩) ⟨195, 15, 195, 44⟩) .Add (.sl (.v 4 "every" ⟨195, 47, 195, 52⟩) (.pl (.bin (.v 10 "at" ⟨195, 53, 195, 55⟩) .Add (.c (.int 1) 0 ⟨195, 58, 195, 59⟩) ⟨195, 53, 195, 59⟩)) .nil ⟨195, 47, 195, 61⟩ ⟨195, 53, 195, 60⟩) ⟨195, 15, 195, 61⟩) ⟨195, 8, 195, 61⟩) (.cons (.iff (.cmp (.cal 16 false "shows_racking" (.cons (.v 13 "half" ⟨196, 25, 196, 29⟩) (.cons (.tup (.cons (.c (.str "begin") 0 ⟨196, 32, 196, 39⟩) (.cons (.v 5 "days" ⟨196, 41, 196, 45⟩) .nil)) 0 ⟨196, 31, 196, 46⟩) .nil)) ⟨196, 11, 196, 24⟩ ⟨196, 11, 196, 47⟩) .IsNot (.c (.bool true) 0 ⟨196, 55, 196, 59⟩) ⟨196, 11, 196, 59⟩) (.cons (.re (.c (.bool false) 0 ⟨197, 19, 197, 24⟩) ⟨197, 12, 197, 24⟩) .nil) .nil ⟨196, 8, 197, 24⟩) (.cons (.pa (.cons (.v 14 "two" ⟨198, 8, 198, 11⟩) (.cons (.v 15 "later" ⟨198, 13, 198, 18⟩) .nil)) (.cons (.bin (.v 13 "half" ⟨198, 22, 198, 26⟩) .Add (.tup (.cons (.bin (.c (.int 2) 0 ⟨198, 30, 198, 31⟩) .Mult (.ix (.v 4 "every" ⟨198, 34, 198, 39⟩) (.v 10 "at" ⟨198, 40, 198, 42⟩) ⟨198, 34, 198, 43⟩) ⟨198, 30, 198, 43⟩) .nil) 0 ⟨198, 29, 198, 45⟩) ⟨198, 22, 198, 45⟩) (.cons (.bin (.v 5 "days" ⟨198, 47, 198, 51⟩) .Add (.tup (.cons (.bin (.ix (.v 5 "days" ⟨198, 55, 198, 59⟩) (.v 10 "at" ⟨198, 60, 198, 62⟩) ⟨198, 55, 198, 63⟩) .Add (.ix (.v 4 "every" ⟨198, 66, 198, 71⟩) (.v 10 "at" ⟨198, 72, 198, 74⟩) ⟨198, 66, 198, 75⟩) ⟨198, 55, 198, 75⟩) .nil) 0 ⟨198, 54, 198, 77⟩) ⟨198, 47, 198, 77⟩) .nil)) 0 0 ⟨198, 8, 198, 18⟩ ⟨198, 21, 198, 78⟩ ⟨198, 8, 198, 78⟩) (.cons (.iff (.cmp (.cal 16 false "shows_racking" (.cons (.v 14 "two" ⟨199, 25, 199, 28⟩) (.cons (.tup (.cons (.c (.str "begin") 0 ⟨199, 31, 199, 38⟩) (.cons (.v 15 "later" ⟨199, 40, 199, 45⟩) .nil)) 0 ⟨199, 30, 199, 46⟩) .nil)) ⟨199, 11, 199, 24⟩ ⟨199, 11, 199, 47⟩) .IsNot (.c (.bool true) 0 ⟨199, 55, 199, 59⟩) ⟨199, 11, 199, 59⟩) (.cons (.re (.c (.bool false) 0 ⟨200, 19, 200, 24⟩) ⟨200, 12, 200, 24⟩) .nil) .nil ⟨199, 8, 200, 24⟩) .nil)))))))))))))))))))) ⟨169, 4, 200, 24⟩) (.cons (.fo (.v 16 "number" ⟨201, 8, 201, 14⟩) (.rg (.cons (.c (.int 1) 0 ⟨201, 24, 201, 25⟩) (.cons (.c (.int 6) 0 ⟨201, 27, 201, 28⟩) .nil)) ⟨201, 18, 201, 23⟩ ⟨201, 18, 201, 29⟩) (.cons (.as (.v 17 "full" ⟨202, 8, 202, 12⟩) (.cal 14 false "racking" (.cons (.bin (.tup (.cons (.v 16 "number" ⟨202, 24, 202, 30⟩) .nil) 0 ⟨202, 23, 202, 32⟩) .Mult (.v 16 "number" ⟨202, 35, 202, 41⟩) ⟨202, 23, 202, 41⟩) .nil) ⟨202, 15, 202, 22⟩ ⟨202, 15, 202, 42⟩) ⟨202, 8, 202, 42⟩) (.cons (.iff (.bo .Or (.cons (.cmp (.ix (.v 17 "full" ⟨203, 11, 203, 15⟩) (.c (.int 0) 0 ⟨203, 16, 203, 17⟩) ⟨203, 11, 203, 18⟩) .NotEq (.c (.str "begin") 0 ⟨203, 22, 203, 29⟩) ⟨203, 11, 203, 29⟩) (.cons (.cmp (.bi .sorted "sorted" (.cons (.ix (.v 17 "full" ⟨203, 40, 203, 44⟩) (.c (.int 1) 0 ⟨203, 45, 203, 46⟩) ⟨203, 40, 203, 47⟩) .nil) ⟨203, 33, 203, 39⟩ ⟨203, 33, 203, 48⟩) .NotEq (.lrg "list" (.cons (.v 16 "number" ⟨203, 63, 203, 69⟩) .nil) ⟨203, 52, 203, 56⟩ ⟨203, 57, 203, 62⟩ ⟨203, 57, 203, 70⟩ ⟨203, 52, 203, 71⟩) ⟨203, 33, 203, 71⟩) .nil)) ⟨203, 11, 203, 71⟩) (.cons (.re (.c (.bool false) 0 ⟨204, 19, 204, 24⟩) ⟨204, 12, 204, 24⟩) .nil) .nil ⟨203, 8, 204, 24⟩) (.cons (.iff (.cmp (.ix (.cal 14 false "racking" (.cons (.bin (.tup (.cons (.v 16 "number" ⟨205, 20, 205, 26⟩) .nil) 0 ⟨205, 19, 205, 28⟩) .Mult (.bin (.v 16 "number" ⟨205, 32, 205, 38⟩) .Add (.c (.int 1) 0 ⟨205, 41, 205, 42⟩) ⟨205, 32, 205, 42⟩) ⟨205, 19, 205, 43⟩) .nil) ⟨205, 11, 205, 18⟩ ⟨205, 11, 205, 44⟩) (.c (.int 0) 0 ⟨205, 45, 205, 46⟩) ⟨205, 11, 205, 47⟩) .Eq (.c (.str "begin") 0 ⟨205, 51, 205, 58⟩) ⟨205, 11, 205, 58⟩) (.cons (.re (.c (.bool false) 0 ⟨206, 19, 206, 24⟩) ⟨206, 12, 206, 24⟩) .nil) .nil ⟨205, 8, 206, 24⟩) .nil))) ⟨201, 4, 206, 24⟩) (.cons (.as (.v 18 "powers" ⟨207, 4, 207, 10⟩) (.lst true .nil ⟨207, 13, 207, 15⟩) ⟨207, 4, 207, 15⟩) (.cons (.fo (.v 3 "cask" ⟨208, 8, 208, 12⟩) (.rg (.cons (.bin (.c (.int 1) 0 ⟨208, 22, 208, 23⟩) .Add (.cal 18 false "_law_take" (.cons (.v 0 "pot" ⟨208, 36, 208, 39⟩) (.cons (.c (.int 4) 0 ⟨208, 41, 208, 42⟩) .nil)) ⟨208, 26, 208, 35⟩ ⟨208, 26, 208, 43⟩) ⟨208, 22, 208, 43⟩) .nil) ⟨208, 16, 208, 21⟩ ⟨208, 16, 208, 44⟩) (.cons (.exs (.app (.v 18 "powers" ⟨209, 8, 209, 14⟩) (.cal 19 false "_law_of" (.cons (.v 0 "pot" ⟨209, 30, 209, 33⟩) (.cons (.lst false (.cons (.c (.int 2) 0 ⟨209, 36, 209, 37⟩) (.cons (.c (.int 4) 0 ⟨209, 39, 209, 40⟩) (.cons (.c (.int 8) 0 ⟨209, 42, 209, 43⟩) (.cons (.c (.int 16) 0 ⟨209, 45, 209, 47⟩) .nil)))) ⟨209, 35, 209, 48⟩) .nil)) ⟨209, 22, 209, 29⟩ ⟨209, 22, 209, 49⟩) ⟨209, 8, 209, 21⟩ ⟨209, 8, 209, 50⟩) ⟨209, 8, 209, 50⟩) .nil) ⟨208, 4, 209, 50⟩) (.cons (.as (.v 19 "load" ⟨210, 4, 210, 8⟩) (.bi .sum "sum" (.cons (.cp false (.bin (.c (.int 16) 0 ⟨210, 16, 210, 18⟩) .FloorDiv (.v 2 "step" ⟨210, 22, 210, 26⟩) ⟨210, 16, 210, 26⟩) (.v 2 "step" ⟨210, 31, 210, 35⟩) (.pl (.v 18 "powers" ⟨210, 39, 210, 45⟩)) .nil ⟨.function, [(".0", .local), ("step", .local)], false, false, []⟩ [("step", 2)] ⟨210, 15, 210, 46⟩) .nil) ⟨210, 11, 210, 14⟩ ⟨210, 11, 210, 47⟩) ⟨210, 4, 210, 47⟩) (.cons (.as (.v 9 "told" ⟨211, 4, 211, 8⟩) (.cal 14 false "racking" (.cons (.bi .tuple "tuple" (.cons (.v 18 "powers" ⟨211, 25, 211, 31⟩) .nil) ⟨211, 19, 211, 24⟩ ⟨211, 19, 211, 32⟩) .nil) ⟨211, 11, 211, 18⟩ ⟨211, 11, 211, 33⟩) ⟨211, 4, 211, 33⟩) (.cons (.re (.bo .And (.cons (.cmp (.cmp (.ix (.v 9 "told" ⟨212, 12, 212, 16⟩) (.c (.int 0) 0 ⟨212, 17, 212, 18⟩) ⟨212, 12, 212, 19⟩) .Eq (.c (.str "begin") 0 ⟨212, 23, 212, 30⟩) ⟨212, 12, 212, 30⟩) .Eq (.cmp (.v 19 "load" ⟨212, 36, 212, 40⟩) .LtE (.c (.int 16) 0 ⟨212, 44, 212, 46⟩) ⟨212, 36, 212, 46⟩) ⟨212, 11, 212, 47⟩) (.cons (.cmp (.cal 16 false "shows_racking" (.cons (.bi .tuple "tuple" (.cons (.v 18 "powers" ⟨212, 72, 212, 78⟩) .nil) ⟨212, 66, 212, 71⟩ ⟨212, 66, 212, 79⟩) (.cons (.v 9 "told" ⟨212, 81, 212, 85⟩) .nil)) ⟨212, 52, 212, 65⟩ ⟨212, 52, 212, 86⟩) .Is (.c (.bool true) 0 ⟨212, 90, 212, 94⟩) ⟨212, 52, 212, 94⟩) .nil)) ⟨212, 11, 212, 94⟩) ⟨212, 4, 212, 94⟩) .nil)))))))
/-- law(script) -/
def t_law : T := (.cons (.re (.bi .all "all" (.cons (.cp false (.cal 24 false "_law_right" (.cons (.cal 17 true "_law_pot" (.cons (.v 0 "script" ⟨214, 36, 214, 42⟩) (.cons (.v 1 "at" ⟨214, 44, 214, 46⟩) .nil)) ⟨214, 27, 214, 35⟩ ⟨214, 27, 214, 47⟩) .nil) ⟨214, 16, 214, 26⟩ ⟨214, 16, 214, 48⟩) (.v 1 "at" ⟨214, 53, 214, 55⟩) (.pl (.cal 20 false "_law_cells" (.cons (.v 0 "script" ⟨214, 70, 214, 76⟩) (.cons (.c (.int 3) 0 ⟨214, 78, 214, 79⟩) .nil)) ⟨214, 59, 214, 69⟩ ⟨214, 59, 214, 80⟩)) .nil ⟨.function, [(".0", .local), ("at", .local), ("_law_right", .globalImplicit), ("_law_pot", .globalImplicit), ("script", .free)], false, false, []⟩ [("at", 1)] ⟨214, 15, 214, 81⟩) .nil) ⟨214, 11, 214, 14⟩ ⟨214, 11, 214, 82⟩) ⟨214, 4, 214, 82⟩) .nil)
def gls : List P := [(.int 60), (.int 12), (.int 100000), (.str "load"), (.str "pair"), (.str "begin"), (.str "lot"), (.str "tried"), (.int 3)]
@[simp] theorem g_MOST_EVERY {e : En} {s : Sr} : eG gls 0 e s = .ok (.p (.int 60)) s := rfl
@[simp] theorem g_MOST_CASKS {e : En} {s : Sr} : eG gls 1 e s = .ok (.p (.int 12)) s := rfl
@[simp] theorem g_MOST_TRIED {e : En} {s : Sr} : eG gls 2 e s = .ok (.p (.int 100000)) s := rfl
@[simp] theorem g_LOAD {e : En} {s : Sr} : eG gls 3 e s = .ok (.p (.str "load")) s := rfl
@[simp] theorem g_PAIR {e : En} {s : Sr} : eG gls 4 e s = .ok (.p (.str "pair")) s := rfl
@[simp] theorem g_BEGIN {e : En} {s : Sr} : eG gls 5 e s = .ok (.p (.str "begin")) s := rfl
@[simp] theorem g_LOT {e : En} {s : Sr} : eG gls 6 e s = .ok (.p (.str "lot")) s := rfl
@[simp] theorem g_TRIED {e : En} {s : Sr} : eG gls 7 e s = .ok (.p (.str "tried")) s := rfl
@[simp] theorem g_THREE {e : En} {s : Sr} : eG gls 8 e s = .ok (.p (.int 3)) s := rfl
def wd : Wd := ⟨gls, ["MOST_EVERY", "MOST_CASKS", "MOST_TRIED", "LOAD", "PAIR", "BEGIN", "LOT", "TRIED", "THREE"], ["is_int", "are_ints", "is_told", "are_rackings", "look_at_rackings", "are_begun", "common", "told_meet", "first_meeting", "told_load", "told_lot", "told_begun", "is_free", "told_racking", "racking", "is_lot", "shows_racking", "_law_pot", "_law_take", "_law_of", "_law_cells", "_law_some", "_law_gcd", "_law_meet", "_law_right", "law"]⟩
def ds : List Df := [⟨t_is_int, 3, 3⟩, ⟨t_are_ints, 3, 4⟩, ⟨t_is_told, 2, 2⟩, ⟨t_are_rackings, 1, 1⟩, ⟨t_look_at_rackings, 1, 1⟩, ⟨t_are_begun, 2, 4⟩, ⟨t_common, 2, 2⟩, ⟨t_told_meet, 4, 4⟩, ⟨t_first_meeting, 2, 8⟩, ⟨t_told_load, 1, 5⟩, ⟨t_told_lot, 1, 9⟩, ⟨t_told_begun, 1, 10⟩, ⟨t_is_free, 5, 6⟩, ⟨t_told_racking, 1, 7⟩, ⟨t_racking, 1, 1⟩, ⟨t_is_lot, 3, 6⟩, ⟨t_shows_racking, 2, 4⟩, ⟨t__law_pot, 2, 5⟩, ⟨t__law_take, 2, 5⟩, ⟨t__law_of, 2, 2⟩, ⟨t__law_cells, 2, 2⟩, ⟨t__law_some, 3, 6⟩, ⟨t__law_gcd, 2, 2⟩, ⟨t__law_meet, 2, 4⟩, ⟨t__law_right, 1, 21⟩, ⟨t_law, 1, 2⟩]
end K69
end
section
set_option linter.all false
set_option maxRecDepth 100000
set_option maxHeartbeats 2000000
namespace K69
open PySem Mi
/-! the draws (draws.tpl) -/
theorem c_take (k N : Nat) (p : Pot) (u : Int) (h : Gp N p) (hN : N < 1000000) (hu : 0 < u ∧ u < 1073741824) : ∃ d q, callK gls ds (k+1) 18 [.r 0, .p (.int u)] [p.o] = .ok (.p (.int d)) [q.o] ∧ 0 ≤ d ∧ d < u ∧ Gp (N + 1) q := by
  obtain ⟨a0, b0, b1, c0, c1⟩ := h
  obtain ⟨a, b, c⟩ := p
  simp only at a0 b0 b1 c0 c1
  rw [callK_at (d := ⟨t__law_take, 2, 5⟩) rfl rfl]
  by_cases ha : 0 < a
  · have m1 : a % u < u := Int.emod_lt_of_pos _ hu.1
    have m2 : 0 ≤ a % u := Int.emod_nonneg _ (by omega)
    refine ⟨a % u, ⟨a / u, b, c⟩, ?_, m2, m1, ⟨?_, b0, b1, c0, by show c ≤ _; omega⟩⟩
    · have s0 : ∀ (x : P), setIx (.r 0) (.p (.int 0)) (.p x) [.lp 0 [.int a, .int b, .int c]] = some [.lp 0 [x, .int b, .int c]] := fun x => by simp [setIx, L2.ixN]
      simp [t__law_take, Pot.o, ixV_r0, ha, b_mod hu.1, div_ok hu, s0]
    · exact Int.ediv_nonneg a0 (by omega)
  · have hz : a = 0 := by omega
    subst hz
    obtain ⟨pm, hp, p1, p2⟩ : ∃ pm : Int, L2.atI [PyData.int 2147483647, .int 2147483629, .int 2147483587, .int 2147483579, .int 2147483563] ((c + 1) % 5) = some (.int pm) ∧ 2147483563 ≤ pm ∧ pm ≤ 2147483647 := by
      have q : (c + 1) % 5 = ((0 : Nat) : Int) ∨ (c + 1) % 5 = ((1 : Nat) : Int) ∨ (c + 1) % 5 = ((2 : Nat) : Int) ∨ (c + 1) % 5 = ((3 : Nat) : Int) ∨ (c + 1) % 5 = ((4 : Nat) : Int) := by omega
      rcases q with q | q | q | q | q <;> rw [q] <;> exact ⟨_, at_nat (by simp), by simp, by simp⟩
    have hcc : c + 1 ≤ 1000000 := by omega
    have s2 : ∀ (x : P), setIx (.r 0) (.p (.int 2)) (.p x) [.lp 0 [.int 0, .int b, .int c]] = some [.lp 0 [.int 0, .int b, x]] := fun x => by simp [setIx, L2.ixN]
    have q1 : 0 ≤ 103801 * (c + 1) * (c + 1) ∧ 103801 * (c + 1) * (c + 1) ≤ 103801 * 1000000 * 1000000 := by
      refine ⟨Int.mul_nonneg (by omega) (by omega), ?_⟩
      exact Int.mul_le_mul (by omega) hcc (by omega) (by omega)
    have l5 : mkLstV false [Vl.p (.int 2147483647), .p (.int 2147483629), .p (.int 2147483587), .p (.int 2147483579), .p (.int 2147483563)] = fun s => .ok (.p (.list [.int 2147483647, .int 2147483629, .int 2147483587, .int 2147483579, .int 2147483563])) s := by
      funext s
      exact mkLstV_ps (xs := [.int 2147483647, .int 2147483629, .int 2147483587, .int 2147483579, .int 2147483563]) (by decide)
    generalize hX : b + 103801 * (c + 1) * (c + 1) + 4001 = Xx at *
    have x1 : 0 ≤ Xx ∧ Xx < 18446744073709551616 := by omega
    have r1 : 0 ≤ Xx ^ 3 % pm := Int.emod_nonneg _ (by omega)
    have r2 : Xx ^ 3 % pm < pm := Int.emod_lt_of_pos _ (by omega)
    generalize hY : Xx ^ 3 % pm = Y at *
    have r3 : 0 ≤ Y % 13063 ∧ Y % 13063 < 13063 := ⟨Int.emod_nonneg _ (by omega), Int.emod_lt_of_pos _ (by omega)⟩
    have m5 : binP .Mult (.int Y) (.int (Y % 13063 + 431 * (c + 1))) = some (.int (Y * (Y % 13063 + 431 * (c + 1)))) := muL_ok (by omega)
    refine ⟨Y * (Y % 13063 + 431 * (c + 1)) % 2305843009213693907 / 269 % u, ⟨0, b, c + 1⟩, ?_, Int.emod_nonneg _ (by omega), Int.emod_lt_of_pos _ hu.1, ⟨Int.le_refl _, b0, b1, by show 0 ≤ c + 1; omega, by show c + 1 ≤ _; omega⟩⟩
    have m1 : binP .Mult (.int 103801) (.int (c + 1)) = some (.int (103801 * (c + 1))) := muL_ok (by omega)
    have m2 : binP .Mult (.int (103801 * (c + 1))) (.int (c + 1)) = some (.int (103801 * (c + 1) * (c + 1))) := muL_ok (by omega)
    have m3 : binP .Mult (.int 431) (.int (c + 1)) = some (.int (431 * (c + 1))) := muL_ok (by omega)
    have m4 : binP .Pow (.int Xx) (.int 3) = some (.int (Xx ^ 3)) := pow_ok x1 (by omega)
    have d1 : ∀ x, binP .Mod (.int x) (.int u) = some (.int (x % u)) := fun x => b_mod hu.1
    have d2 : ∀ x, binP .Mod (.int x) (.int pm) = some (.int (x % pm)) := fun x => b_mod (by omega)
    have d3 : ∀ x, binP .Mod (.int x) (.int 5) = some (.int (x % 5)) := fun x => b_mod (by omega)
    have d4 : ∀ x, binP .Mod (.int x) (.int 13063) = some (.int (x % 13063)) := fun x => b_mod (by omega)
    have d5 : ∀ x, binP .Mod (.int x) (.int 2305843009213693907) = some (.int (x % 2305843009213693907)) := fun x => b_mod (by omega)
    have d6 : ∀ x, binP .FloorDiv (.int x) (.int 269) = some (.int (x / 269)) := fun x => div_ok (by omega)
    simp [t__law_take, Pot.o, ixV_r0, s2, d1, d2, d3, d4, d5, d6, m1, m2, m3, hX, m4, hY, m5, hp, l5]
theorem w_take (k N : Nat) (p : Pot) (u : Int) (h : Gp N p) (hN : N < 1000000) (hu : 0 < u ∧ u < 1073741824) : ∃ d q, 0 ≤ d ∧ d < u ∧ Gp (N + 1) q ∧ ∀ (n : Nat) (s : Sr) (m : Bool), s[n]? = some p.o → callW (callK gls ds (k+1) 18) m [.r n, .p (.int u)] s = .ok (.p (.int d)) (s.set n q.o) := by
  obtain ⟨d, q, h1, h2, h3, h4⟩ := c_take k N p u h hN hu
  exact ⟨d, q, h2, h3, h4, fun n s m hs => callW_r2 hs (plain_o p) h1⟩
theorem w_of (k N : Nat) (p : Pot) (xs : List P) (h : Gp N p) (hN : N < 1000000) (hu : 0 < xs.length ∧ xs.length < 1000) : ∃ (i : Nat) (q : Pot) (hi : i < xs.length), Gp (N + 1) q ∧ ∀ (n : Nat) (s : Sr) (m : Bool), s[n]? = some p.o → callW (callK gls ds (k+2) 19) m [.r n, .p (.list xs)] s = .ok (.p xs[i]) (s.set n q.o) := by
  obtain ⟨d, q, h1, h2, h3, h4⟩ := w_take k N p xs.length h hN (by omega)
  obtain ⟨i, rfl⟩ : ∃ i : Nat, d = i := ⟨d.toNat, by omega⟩
  have hi : i < xs.length := by omega
  refine ⟨i, q, hi, h3, fun n s m hs => callW_r2 hs (plain_o p) (t := []) ?_⟩
  rw [callK_at (d := ⟨t__law_of, 2, 2⟩) rfl rfl]
  have e1 := h4 0 [p.o] false rfl
  simp [t__law_of, e1, at_nat hi]
theorem c_cells (k most : Nat) (hm : most ≤ 10) (xs : List P) (st : Sr) : callK gls ds (k+1) 20 [.p (.list xs), .p (.int (most : Nat))] st = .ok (.p (.list (rng 0 1 (max 1 (min most xs.length))))) st := by
  rw [callK_at (d := ⟨t__law_cells, 2, 2⟩) rfl rfl]
  have e : (if (if (xs.length : Int) < (most : Nat) then (xs.length : Int) else (most : Nat)) > 1 then (if (xs.length : Int) < (most : Nat) then (xs.length : Int) else (most : Nat)) else 1) = ((max 1 (min most xs.length) : Nat) : Int) := by omega
  have l' := lrgP_1 (max 1 (min most xs.length)) (by omega)
  rw [← e] at l'
  simp at l'
  simp [t__law_cells, l']
theorem c_pot (k : Nat) (ns : List Int) (j : Nat) (hj : j < 10) : ∃ (p : Pot), callK gls ds (k+1) 17 [.p (.list (ns.map .int)), .p (.int (j : Nat))] [] = .ok (.r 0) [p.o] ∧ Gp 0 p := by
  rw [callK_at (d := ⟨t__law_pot, 2, 5⟩) rfl rfl]
  obtain ⟨cell, hc⟩ : ∃ cell : Int, (sem gls (callK gls ds k) (sti t__law_pot 0)).s [some (.p (.list (ns.map .int))), some (.p (.int (j : Nat))), none, none, none] [] = .nx [some (.p (.list (ns.map .int))), some (.p (.int (j : Nat))), some (.p (.int cell)), none, none] [] := by
    by_cases h : j < ns.length
    · refine ⟨ns[j], ?_⟩
      have e1 : L2.atI (ns.map PyData.int) (j : Int) = some (.int ns[j]) := by rw [at_nat (by simpa using h)]; simp
      simp [t__law_pot, sti, h, e1]
    · refine ⟨(ns.take 1).sum % 1000253 + 6473 * j + 4001, ?_⟩
      have e1 : binP .Mult (.int 6473) (.int (j : Nat)) = some (.int (6473 * j)) := muL_ok (by omega)
      have e2 : ∀ x, binP .Mod (.int x) (.int 1000253) = some (.int (x % 1000253)) := fun x => b_mod (by omega)
      have e3 : cut (ns.map PyData.int) none (some 1) = (ns.take 1).map .int := by
        rw [show (1 : Int) = ((1 : Nat) : Int) by rfl, cut_take, List.map_take]
      simp [t__law_pot, sti, h, e1, e2, e3, -List.map_take]
  have r : ∀ (e : En) (s : Sr), (sem gls (callK gls ds k) t__law_pot).s e s = ((sem gls (callK gls ds k) (sti t__law_pot 0)).s e s).th (sem gls (callK gls ds k) (tlT t__law_pot)).s := fun e s => rfl
  rw [r]
  have hc' := hc
  simp only [List.map_cons, List.map_nil, List.cons_append, List.nil_append, List.replicate] at hc' ⊢
  rw [hc', th_nx]
  have p1 : binP .Pow (.int 10) (.int 60) = some (.int ((10 : Int) ^ 60)) := pow_ok (by omega) (by omega)
  have p3 : binP .Pow (.int 10) (.int 18) = some (.int ((10 : Int) ^ 18)) := pow_ok (by omega) (by omega)
  generalize hB : ((10 : Int) ^ 18) = B at p3
  have p2 : ∃ A : Int, binP .Pow (.int ((10 : Int) ^ 60)) (.int 5) = some (.int A) ∧ 0 < A := ⟨((10 : Int) ^ 60) ^ 5, b_pow ⟨by omega, .inr (by decide)⟩, by decide⟩
  obtain ⟨A, p2, A0⟩ := p2
  generalize ((10 : Int) ^ 60) = Z at p1 p2
  have d1 : ∀ x, binP .Mod (.int x) (.int A) = some (.int (x % A)) := fun x => b_mod A0
  have d2 : ∀ x, binP .Mod (.int x) (.int 2305843009213693951) = some (.int (x % 2305843009213693951)) := fun x => b_mod (by omega)
  have d3 : ∀ x, binP .Mod (.int x) (.int 2305843009213693921) = some (.int (x % 2305843009213693921)) := fun x => b_mod (by omega)
  generalize hab : (if cell < 0 then -cell else cell) = ab at *
  have m0 : ∀ (x : Int), binP .Mult (.int x) (.int (if B ≤ ab then 1 else 0)) = some (.int (x * (if B ≤ ab then 1 else 0))) := fun x => b_mul (.inr (.inl (by split <;> omega)))
  have m9 : ∀ (x y z : P) (s : Sr), mkLstV true [.p x, .p y, .p z] s = .ok (.r s.length) (s ++ [.lp 0 [x, y, z]]) := fun x y z s => by
    have : (3 : Nat) ≤ lim := by decide
    simp [mkLstV, mkLst, this]
  have m1 : ∀ x, binP .Mult (.int x) (.int 93001) = some (.int (x * 93001)) := fun x => b_mul (.inr (.inl (by omega)))
  have m2 : binP .Mult (.int 13007) (.int (j : Nat)) = some (.int (13007 * j)) := muL_ok (by omega)
  have m3 : binP .Mult (.int (13007 * j)) (.int (j : Nat)) = some (.int (13007 * j * j)) := muL_ok (by omega)
  refine ⟨⟨ab % A * (if decide (B ≤ ab) = true then 1 else 0), (cell % 2305843009213693951 * 93001 + 13007 * j * j + 3511) % 2305843009213693921, 0⟩, ?_, ?_, Int.emod_nonneg _ (by omega), ?_, by simp, by simp⟩
  · simp [tlT, t__law_pot, p1, p2, p3, d1, d2, d3, m0, m1, m2, m3, m9, hab, Pot.o]
  · refine Int.mul_nonneg (Int.emod_nonneg _ (by omega)) ?_
    split <;> omega
  · have := Int.emod_lt_of_pos (cell % 2305843009213693951 * 93001 + 13007 * j * j + 3511) (b := 2305843009213693921) (by omega)
    simp only
    omega
end K69
end
section
set_option linter.all false
set_option maxRecDepth 100000
set_option maxHeartbeats 1000000
namespace K69
/-! casks that meet -/
def cm (d e : Int) : Int := (Nat.gcd d.toNat e.toNat : Nat)
abbrev Pr := Int × Int
/-- (day, days): do they meet -/
def M (p q : Pr) : Prop := cm p.2 q.2 ∣ p.1 - q.1
instance (p q : Pr) : Decidable (M p q) := inferInstanceAs (Decidable (_ ∣ _))
def NM (p q : Pr) : Prop := ¬ M p q
theorem cm_comm (d e : Int) : cm d e = cm e d := by unfold cm; rw [Nat.gcd_comm]
theorem cm_pos {d e : Int} (hd : 0 < d) : 0 < cm d e := by
  have : 0 < Nat.gcd d.toNat e.toNat := Nat.gcd_pos_of_pos_left _ (by omega)
  unfold cm; omega
theorem cm_l {d e : Int} (hd : 0 ≤ d) : cm d e ∣ d := by
  unfold cm
  have := Nat.gcd_dvd_left d.toNat e.toNat
  have h := Int.natCast_dvd_natCast.mpr this
  rwa [Int.toNat_of_nonneg hd] at h
theorem cm_r {d e : Int} (he : 0 ≤ e) : cm d e ∣ e := by rw [cm_comm]; exact cm_l he
theorem dvd_cm {k d e : Int} (hd : 0 ≤ d) (he : 0 ≤ e) (h1 : k ∣ d) (h2 : k ∣ e) : k ∣ cm d e := by
  unfold cm
  rw [← Int.natAbs_dvd_natAbs] at *
  rw [Int.natAbs_natCast]
  have e1 : d.natAbs = d.toNat := by omega
  have e2 : e.natAbs = e.toNat := by omega
  rw [e1] at h1; rw [e2] at h2
  exact Nat.dvd_gcd h1 h2
theorem M_symm {p q : Pr} (h : M p q) : M q p := by
  unfold M at *
  rw [cm_comm, ← Int.dvd_neg, Int.neg_sub]
  exact h
theorem NM_symm {p q : Pr} (h : NM p q) : NM q p := fun c => h (M_symm c)
/-- days for casks -/
def Good (ps : List Pr) : Prop := (∀ p ∈ ps, 0 ≤ p.1 ∧ p.1 < p.2) ∧ ps.Pairwise NM
def Ex (es : List Int) : Prop := ∃ ps : List Pr, ps.map (·.2) = es ∧ Good ps
theorem perm_lift : ∀ {es es' : List Int}, es.Perm es' → ∀ ps : List Pr, ps.map (·.2) = es → ∃ ps' : List Pr, ps.Perm ps' ∧ ps'.map (·.2) = es' := by
  intro es es' h
  induction h with
  | nil => intro ps e; exact ⟨ps, .refl _, e⟩
  | cons x h ih =>
    intro ps e
    match ps, e with
    | p :: ps, e =>
      simp at e
      obtain ⟨ps', h1, h2⟩ := ih ps e.2
      exact ⟨p :: ps', .cons _ h1, by simp [e.1, h2]⟩
  | swap x y l =>
    intro ps e
    match ps, e with
    | p :: q :: ps, e =>
      simp at e
      exact ⟨q :: p :: ps, .swap _ _ _, by simp [e]⟩
  | trans h1 h2 ih1 ih2 =>
    intro ps e
    obtain ⟨p1, a1, a2⟩ := ih1 ps e
    obtain ⟨p2, b1, b2⟩ := ih2 p1 a2
    exact ⟨p2, a1.trans b1, b2⟩
theorem Good.perm {ps qs : List Pr} (h : ps.Perm qs) (g : Good ps) : Good qs :=
  ⟨fun p hp => g.1 p (h.mem_iff.mpr hp), (h.pairwise_iff fun {x y} => NM_symm).mp g.2⟩
theorem Ex.perm {es es' : List Int} (h : es.Perm es') (g : Ex es) : Ex es' := by
  obtain ⟨ps, e, g⟩ := g
  obtain ⟨qs, h1, h2⟩ := perm_lift h ps e
  exact ⟨qs, h2, g.perm h1⟩
theorem Good.sub {ps qs : List Pr} (h : qs.Sublist ps) (g : Good ps) : Good qs := ⟨fun p hp => g.1 p (h.subset hp), g.2.sublist h⟩
/-- moved on -/
def mv (t : Int) (p : Pr) : Pr := ((p.1 + t) % p.2, p.2)
theorem M_mv {t : Int} {p q : Pr} (hp : 0 < p.2) (hq : 0 < q.2) : M (mv t p) (mv t q) ↔ M p q := by
  unfold M mv
  have e1 : (p.1 + t) % p.2 = p.1 + t - p.2 * ((p.1 + t) / p.2) := by have := Int.emod_add_mul_ediv (p.1 + t) p.2; omega
  have e2 : (q.1 + t) % q.2 = q.1 + t - q.2 * ((q.1 + t) / q.2) := by have := Int.emod_add_mul_ediv (q.1 + t) q.2; omega
  have d1 : cm p.2 q.2 ∣ p.2 * ((p.1 + t) / p.2) := Int.dvd_trans (cm_l (by omega)) (Int.dvd_mul_right ..)
  have d2 : cm p.2 q.2 ∣ q.2 * ((q.1 + t) / q.2) := Int.dvd_trans (cm_r (by omega)) (Int.dvd_mul_right ..)
  show cm p.2 q.2 ∣ (p.1 + t) % p.2 - (q.1 + t) % q.2 ↔ _
  rw [e1, e2, show p.1 + t - p.2 * ((p.1 + t) / p.2) - (q.1 + t - q.2 * ((q.1 + t) / q.2)) = (p.1 - q.1) + (q.2 * ((q.1 + t) / q.2) - p.2 * ((p.1 + t) / p.2)) by omega]
  exact Int.dvd_add_left (Int.dvd_sub d2 d1)
theorem Good.mv {ps : List Pr} (t : Int) (g : Good ps) : Good (ps.map (mv t)) := by
  have pos : ∀ p ∈ ps, 0 < p.2 := fun p hp => by have := g.1 p hp; omega
  refine ⟨fun p hp => ?_, ?_⟩
  · obtain ⟨q, hq, rfl⟩ := List.mem_map.mp hp
    have := pos q hq
    exact ⟨Int.emod_nonneg _ (by omega), Int.emod_lt_of_pos _ this⟩
  · rw [List.pairwise_map]
    exact g.2.imp_of_mem fun ha hb h => fun c => h ((M_mv (pos _ ha) (pos _ hb)).mp c)
/-- half as often -/
theorem NM_half {x d : Int} {q : Pr} (hd : 0 < d) (hq : 0 < q.2) (h : NM (x, d) q) : NM (x, 2 * d) q := fun c => h (by
  unfold M at *
  exact Int.dvd_trans (dvd_cm (by omega) (by omega) (Int.dvd_trans (cm_l (by omega)) (Int.dvd_mul_left ..)) (cm_r (by omega))) c)
theorem NM_two {x d : Int} {q : Pr} (hd : 0 < d) (hq : 0 < q.2) (h : NM (x, d) q) : NM (x + d, 2 * d) q := fun c => h (by
  unfold M at *
  have h1 : cm d q.2 ∣ x + d - q.1 := Int.dvd_trans (dvd_cm (by omega) (by omega) (Int.dvd_trans (cm_l (by omega)) (Int.dvd_mul_left ..)) (cm_r (by omega))) c
  have h2 : cm d q.2 ∣ d := cm_l (by omega)
  have := Int.dvd_sub h1 h2
  rwa [show x + d - q.1 - d = x - q.1 by omega] at this)
theorem NM_self {x d : Int} (hd : 0 < d) : NM (x, 2 * d) (x + d, 2 * d) := fun c => by
  unfold M at c
  have e : cm (2 * d) (2 * d) = 2 * d := by
    unfold cm; rw [Nat.gcd_self]; omega
  simp only [e] at c
  obtain ⟨k, hk⟩ := c
  have : 2 * d * k = d * (2 * k) := by rw [Int.mul_assoc, Int.mul_left_comm]
  rw [this] at hk
  have h2 : d * (2 * k) = d * (-1) := by omega
  have := Int.eq_of_mul_eq_mul_left (by omega) h2
  omega
theorem mid_pw {ps qs : List Pr} {p : Pr} (h : (ps ++ p :: qs).Pairwise NM) : ∀ r ∈ ps ++ qs, NM p r := by
  intro r hr
  rw [List.pairwise_append, List.pairwise_cons] at h
  rcases List.mem_append.mp hr with hr | hr
  · exact NM_symm (h.2.2 r hr p List.mem_cons_self)
  · exact h.2.1.1 r hr
theorem mid_set {ps qs : List Pr} {p p' : Pr} (h : (ps ++ p :: qs).Pairwise NM) (h' : ∀ r ∈ ps ++ qs, NM p' r) : (ps ++ p' :: qs).Pairwise NM := by
  rw [List.pairwise_append, List.pairwise_cons] at *
  refine ⟨h.1, ⟨fun r hr => h' r (List.mem_append_right _ hr), h.2.1.2⟩, fun a ha b hb => ?_⟩
  rcases List.mem_cons.mp hb with rfl | hb
  · exact NM_symm (h' a (List.mem_append_left _ ha))
  · exact h.2.2 a ha b (List.mem_cons_of_mem _ hb)
theorem Good.half {ps qs : List Pr} {x d : Int} (g : Good (ps ++ (x, d) :: qs)) : Good (ps ++ (x, 2 * d) :: qs) := by
  have hx := g.1 (x, d) (by simp)
  simp only at hx
  have hp : ∀ r ∈ ps ++ qs, 0 ≤ r.1 ∧ r.1 < r.2 := fun r hr => g.1 r (by
    rcases List.mem_append.mp hr with hr | hr
    · exact List.mem_append_left _ hr
    · exact List.mem_append_right _ (List.mem_cons_of_mem _ hr))
  refine ⟨fun p h => ?_, mid_set g.2 fun r hr => NM_half (by omega) (by have := hp r hr; omega) (mid_pw g.2 r hr)⟩
  rcases List.mem_append.mp h with h | h
  · exact hp p (List.mem_append_left _ h)
  · rcases List.mem_cons.mp h with rfl | h
    · simp only; omega
    · exact hp p (List.mem_append_right _ h)
theorem Good.two {ps qs : List Pr} {x d : Int} (g : Good (ps ++ (x, d) :: qs)) : Good (ps ++ (x, 2 * d) :: qs ++ [(x + d, 2 * d)]) := by
  have hx := g.1 (x, d) (by simp)
  simp only at hx
  have hp : ∀ r ∈ ps ++ qs, 0 ≤ r.1 ∧ r.1 < r.2 := fun r hr => g.1 r (by
    rcases List.mem_append.mp hr with hr | hr
    · exact List.mem_append_left _ hr
    · exact List.mem_append_right _ (List.mem_cons_of_mem _ hr))
  have gh := g.half
  refine ⟨fun p h => ?_, ?_⟩
  · rcases List.mem_append.mp h with h | h
    · exact gh.1 p h
    · rw [List.mem_singleton.mp h]; simp only; omega
  · rw [List.pairwise_append]
    refine ⟨gh.2, List.pairwise_singleton _ _, fun a ha b hb => ?_⟩
    rw [List.mem_singleton.mp hb]
    rcases List.mem_append.mp ha with ha | ha
    · exact NM_symm (NM_two (by omega) (by have := hp a (List.mem_append_left _ ha); omega) (mid_pw g.2 a (List.mem_append_left _ ha)))
    · rcases List.mem_cons.mp ha with rfl | ha
      · exact NM_self (by omega)
      · exact NM_symm (NM_two (by omega) (by have := hp a (List.mem_append_right _ ha); omega) (mid_pw g.2 a (List.mem_append_right _ ha)))
/-! the load -/
def hit (p : Pr) (t : Nat) : Nat := if ((t : Nat) : Int) % p.2 = p.1 then 1 else 0
def sumN (f : Nat → Nat) : Nat → Nat
  | 0 => 0
  | n + 1 => sumN f n + f n
theorem sumN_le {f : Nat → Nat} {c : Nat} (h : ∀ t, f t ≤ c) : ∀ n, sumN f n ≤ n * c
  | 0 => by simp [sumN]
  | n + 1 => by
    have := sumN_le h n
    have := h n
    simp only [sumN, Nat.add_mul]; omega
theorem sumN_add {f g : Nat → Nat} : ∀ n, sumN (fun t => f t + g t) n = sumN f n + sumN g n
  | 0 => rfl
  | n + 1 => by simp only [sumN, sumN_add n]; omega
theorem sumN_split {f : Nat → Nat} (a : Nat) : ∀ b, sumN f (a + b) = sumN f a + sumN (fun t => f (a + t)) b
  | 0 => by simp [sumN]
  | b + 1 => by
    rw [← Nat.add_assoc]
    simp only [sumN, sumN_split a b]; omega
theorem sumN_one {x : Nat} : ∀ d, sumN (fun t => if t = x then 1 else 0) d = if x < d then 1 else 0
  | 0 => by simp [sumN]
  | d + 1 => by
    simp only [sumN, sumN_one d]
    by_cases h : x < d
    · have : ¬ d = x := by omega
      have : x < d + 1 := by omega
      simp [*]
    · by_cases h2 : d = x
      · subst h2; simp
      · have : ¬ x < d + 1 := by omega
        simp [*]
theorem hit_sum {x d : Nat} (hx : x < d) : ∀ k, sumN (hit ((x : Int), (d : Int))) (k * d) = k
  | 0 => by simp [sumN]
  | k + 1 => by
    rw [Nat.add_mul, Nat.one_mul, sumN_split, hit_sum hx k]
    have e : sumN (fun t => hit ((x : Int), (d : Int)) (k * d + t)) d = sumN (fun t => if t = x then 1 else 0) d := by
      have gen : ∀ n, n ≤ d → sumN (fun t => hit ((x : Int), (d : Int)) (k * d + t)) n = sumN (fun t => if t = x then 1 else 0) n := by
        intro n
        induction n with
        | zero => intro _; rfl
        | succ n ih =>
          intro hn
          simp only [sumN]
          rw [ih (by omega)]
          congr 1
          unfold hit
          have : (((k * d + n : Nat) : Int)) % (d : Int) = (n : Int) := by
            rw [← Int.natCast_emod, Nat.mul_comm, Nat.mul_add_mod, Nat.mod_eq_of_lt (by omega)]
          simp only [this]
          by_cases q : n = x
          · simp [q]
          · have : ¬ (n : Int) = (x : Int) := by omega
            simp [q, this]
      exact gen d (Nat.le_refl _)
    rw [e, sumN_one, if_pos hx]
def hits (ps : List Pr) (t : Nat) : Nat := (ps.map fun p => hit p t).sum
theorem hits_le {ps : List Pr} (g : Good ps) (t : Nat) : hits ps t ≤ 1 := by
  induction ps with
  | nil => simp [hits]
  | cons p r ih =>
    have gr := g.sub (List.sublist_cons_self p r)
    have ih := ih gr
    unfold hits at *
    rw [List.map_cons, List.sum_cons]
    by_cases h : hit p t = 0
    · omega
    · have hz : (r.map fun p => hit p t).sum = 0 := by
        have all : ∀ q ∈ r, hit q t = 0 := fun q hq => by
          apply Classical.byContradiction
          intro hc
          unfold hit at h hc
          split at h
          · rename_i e1
            split at hc
            · rename_i e2
              refine (List.pairwise_cons.mp g.2).1 q hq ?_
              unfold M
              have hp := g.1 p List.mem_cons_self
              have hq' := g.1 q (List.mem_cons_of_mem _ hq)
              have d1 : cm p.2 q.2 ∣ (t : Int) - p.1 := by
                rw [← e1]
                have := Int.emod_add_mul_ediv (t : Int) p.2
                exact Int.dvd_trans (cm_l (by omega)) ⟨(t : Int) / p.2, by omega⟩
              have d2 : cm p.2 q.2 ∣ (t : Int) - q.1 := by
                rw [← e2]
                have := Int.emod_add_mul_ediv (t : Int) q.2
                exact Int.dvd_trans (cm_r (by omega)) ⟨(t : Int) / q.2, by omega⟩
              have := Int.dvd_sub d2 d1
              rwa [show (t : Int) - q.1 - ((t : Int) - p.1) = p.1 - q.1 by omega] at this
            · exact hc rfl
          · exact h rfl
        have zz : ∀ l : List Pr, (∀ q ∈ l, hit q t = 0) → (l.map fun p => hit p t).sum = 0 := fun l => by
          induction l with
          | nil => intro _; rfl
          | cons q s ih2 =>
            intro hl
            rw [List.map_cons, List.sum_cons, hl q List.mem_cons_self, ih2 fun x hx => hl x (List.mem_cons_of_mem _ hx)]
        exact zz r all
      rw [hz]
      unfold hit; split <;> omega
/-- sum of N / d -/
def ld (N : Nat) (ds : List Nat) : Nat := (ds.map fun d => N / d).sum
theorem ld_le {ps : List Pr} (g : Good ps) (N : Nat) (hN : ∀ p ∈ ps, p.2.toNat ∣ N) : ld N (ps.map fun p => p.2.toNat) ≤ N := by
  have h1 := sumN_le (hits_le g) N
  have h2 : sumN (hits ps) N = ld N (ps.map fun p => p.2.toNat) := by
    clear h1
    induction ps with
    | nil =>
      have : ∀ n, sumN (hits []) n = 0 := fun n => by
        induction n with
        | zero => rfl
        | succ n ih => simp [sumN, ih, hits]
      rw [this]; rfl
    | cons p r ih =>
      have e : hits (p :: r) = fun t => hit p t + hits r t := by funext t; simp [hits]
      rw [e, sumN_add, ih (g.sub (List.sublist_cons_self p r)) fun q hq => hN q (List.mem_cons_of_mem _ hq)]
      have hp := g.1 p List.mem_cons_self
      obtain ⟨k, hk⟩ := hN p List.mem_cons_self
      obtain ⟨a, b⟩ := p
      simp only at hp hk ⊢
      obtain ⟨x, rfl⟩ : ∃ x : Nat, a = x := ⟨a.toNat, by omega⟩
      obtain ⟨d, rfl⟩ : ∃ d : Nat, b = d := ⟨b.toNat, by omega⟩
      rw [Int.toNat_natCast] at hk
      have := hit_sum (x := x) (d := d) (by omega) k
      rw [Nat.mul_comm, ← hk] at this
      rw [this]
      simp only [ld, List.map_cons, List.sum_cons, Int.toNat_natCast]
      rw [hk, Nat.mul_div_cancel_left _ (by omega)]
  omega
end K69
end
section
set_option linter.all false
set_option maxRecDepth 100000
set_option maxHeartbeats 1000000
namespace K69
open PySem Mi
def isI (v : P) (lo hi : Int) : Bool := match v with
  | .int i => decide (lo ≤ i) && decide (i ≤ hi)
  | _ => false
theorem c_is_int (k : Nat) (v : P) (lo hi : Int) (st : Sr) : callK gls ds (k+1) 0 [.p v, .p (.int lo), .p (.int hi)] st = .ok (.p (.bool (isI v lo hi))) st := by
  rw [callK_at (d := ⟨t_is_int, 3, 3⟩) rfl rfl]
  cases v <;> simp [t_is_int, isI]
  rename_i i
  by_cases h : lo ≤ i <;> simp [h]
theorem c_are_ints (k : Nat) (ns : List Int) (lo hi : Int) (st : Sr) (hn : ns.length ≤ lim) : callK gls ds (k+2) 1 [.p (.tuple (ns.map .int)), .p (.int lo), .p (.int hi)] st = .ok (.p (.bool (ns.all fun i => decide (lo ≤ i) && decide (i ≤ hi)))) st := by
  rw [callK_at (d := ⟨t_are_ints, 3, 4⟩) rfl rfl]
  simp [t_are_ints, hn]
  rw [cpL_map (f := fun v => .bool (match v with | .p x => isI x lo hi | _ => false))]
  · simp [Function.comp_def, isI]
  · intro v hv
    obtain ⟨i, hi, rfl⟩ := List.mem_map.mp hv
    simp [wipeE, callW_p3 (c_is_int k _ lo _ [])]
def wsT (ws : List Int) : P := .tuple (ws.map .int)
@[simp] theorem lenW {l : List Int} : biP .len [wsT l] = some (.int l.length) := by simp [wsT]
@[simp] theorem sumW {l : List Int} : biP .sum [wsT l] = some (.int l.sum) := bi_sumT
@[simp] theorem ixW {l : List Int} {i : Int} {s : Sr} : ixV (.p (wsT l)) (.p (.int i)) s = R.of ((L2.atI (l.map .int) i).map .p) s := rfl
@[simp] theorem itW {l : List Int} {s : Sr} : itOf (.p (wsT l)) s = .ok (.inl (l.map fun i => .p (.int i))) s := by simp [wsT]
theorem wsE {l : List Int} : PyData.tuple (l.map .int) = wsT l := rfl
theorem zipW : ∀ (a b : List Int), zipP (a.map .int) (b.map .int) = (a.zip b).map fun q => Vl.p (PyData.tuple [.int q.1, .int q.2])
  | [], b => rfl
  | x :: a, [] => rfl
  | x :: a, y :: b => by simp [zipP, zipW a b]
theorem zpW (a b : List Int) : zpV [.p (wsT a), .p (wsT b)] = some (.inl ((a.zip b).map fun q => Vl.p (PyData.tuple [.int q.1, .int q.2]))) := congrArg (fun x => some (Sum.inl x)) (zipW a b)
theorem atW {l : List Int} {i : Nat} (h : i < l.length) : L2.atI (l.map PyData.int) (i : Int) = some (.int l[i]) := by rw [at_nat (by simpa using h)]; simp
/-- casks -/
structure Ok (es : List Int) : Prop where
  b : ∀ e ∈ es, 1 ≤ e ∧ e ≤ 24
  l : 1 ≤ es.length ∧ es.length ≤ 6
theorem c_are (k : Nat) (es : List Int) (h : Ok es) (st : Sr) : callK gls ds (k+3) 3 [.p (wsT es)] st = .ok (.p (.bool true)) st := by
  rw [callK_at (d := ⟨t_are_rackings, 1, 1⟩) rfl rfl]
  have hl := h.l
  have q := c_are_ints k es 1 60 [] (by unfold lim; omega)
  have al : (es.all fun i => decide (1 ≤ i) && decide (i ≤ 60)) = true := by
    rw [List.all_eq_true]
    intro w hw
    have := h.b w hw
    simp; omega
  rw [al] at q
  have a1 := fun s => callW_p3 (f := callK gls ds (k+2) 1) (m := false) (s := s) q
  have g1 : (1 : Int) ≤ (es.length : Int) := by omega
  have g2 : (es.length : Int) ≤ 12 := by omega
  simp only [wsE] at a1
  simp [t_are_rackings, a1, g1, g2]
theorem c_look (k : Nat) (es : List Int) (h : Ok es) (st : Sr) : callK gls ds (k+4) 4 [.p (wsT es)] st = .ok (.p .none) st := by
  rw [callK_at (d := ⟨t_look_at_rackings, 1, 1⟩) rfl rfl]
  have a1 := fun s => callW_p1 (f := callK gls ds (k+3) 3) (m := false) (s := s) (c_are k es h [])
  simp [t_look_at_rackings, a1]
/-- first days -/
def Bg (es bs : List Int) : Prop := bs.length = es.length ∧ ∀ q ∈ bs.zip es, 0 ≤ q.1 ∧ q.1 < q.2
theorem Bg.b {es bs : List Int} (h : Bg es bs) (ok : Ok es) : ∀ x ∈ bs, 0 ≤ x ∧ x ≤ 60 := by
  intro x hx
  obtain ⟨i, hi, rfl⟩ := List.getElem_of_mem hx
  have hi2 : i < (bs.zip es).length := by rw [List.length_zip, h.1]; rw [h.1] at hi; omega
  have hi3 : i < es.length := by rw [← h.1]; exact hi
  have q := h.2 _ (List.getElem_mem hi2)
  rw [List.getElem_zip] at q
  have := ok.b es[i] (List.getElem_mem _)
  simp only at q
  omega
theorem c_begun (k : Nat) (es bs : List Int) (h : Ok es) (g : Bg es bs) (st : Sr) : callK gls ds (k+3) 5 [.p (wsT es), .p (wsT bs)] st = .ok (.p (.bool true)) st := by
  rw [callK_at (d := ⟨t_are_begun, 2, 4⟩) rfl rfl]
  have hl := h.l
  have hlb := g.1
  have q := c_are_ints k bs 0 60 [] (by unfold lim; omega)
  have al : (bs.all fun i => decide (0 ≤ i) && decide (i ≤ 60)) = true := by
    rw [List.all_eq_true]
    intro w hw
    have := g.b h w hw
    simp; omega
  rw [al] at q
  have a1 := fun s => callW_p3 (f := callK gls ds (k+2) 1) (m := false) (s := s) q
  simp only [wsE] at a1
  have zl : ((bs.zip es).map fun q => Vl.p (PyData.tuple [.int q.1, .int q.2])).length ≤ lim := by simp; unfold lim; omega
  simp [t_are_begun, a1, hlb, zpW, cpAll_l zl]
  rw [cpL_map (f := fun v => .bool (match v with | .p (.tuple [.int a, .int b]) => decide (a < b) | _ => false))]
  · have al : ((bs.zip es).all fun q => decide (q.1 < q.2)) = true := by
      rw [List.all_eq_true]
      intro q hq
      exact decide_eq_true (g.2 q hq).2
    simp only [List.map_map, Function.comp_def, bd_ok, mkLst_f]
    simp [al, -List.all_eq_true]
  · intro v hv
    obtain ⟨q, hq, rfl⟩ := List.mem_map.mp hv
    simp [wipeE, cnt]
theorem gcd_run (k : Nat) (a b : Nat) (st : Sr) : (callK gls ds (k+1) 6 [.p (.int (a : Nat)), .p (.int (b : Nat))] st = .ok (.p (.int (Nat.gcd a b : Nat))) st) := by
  rw [callK_at (d := ⟨t_common, 2, 2⟩) rfl rfl]
  generalize hr : endX _ = r
  have L := whC_run (c := fun e s => tst ((sem gls (callK gls ds k) (whc (sti t_common 0))).e e s)) (b := (sem gls (callK gls ds k) (whb (sti t_common 0))).s)
    (fun q : Nat × Nat => [some (.p (.int (q.1 : Nat))), some (.p (.int (q.2 : Nat)))]) (fun _ => st) (fun q => decide (q.2 ≠ 0)) (fun q => (q.2, q.1 % q.2)) (fun q => Nat.gcd q.1 q.2 = Nat.gcd a b) (fun q => q.2) (fun q _ => by
      simp [t_common, sti, whc]) (fun q h0 ht => by
      have ht : q.2 ≠ 0 := by simpa using ht
      have m1 : binP .Mod (.int (q.1 : Nat)) (.int (q.2 : Nat)) = some (.int ((q.1 % q.2 : Nat) : Int)) := by
        rw [b_mod (by omega)]; rfl
      refine ⟨by simp [t_common, sti, whb, m1], ?_, Nat.mod_lt _ (by omega)⟩
      show Nat.gcd q.2 (q.1 % q.2) = _
      rw [← h0, Nat.gcd_comm q.1 q.2, Nat.gcd_rec q.2 q.1, Nat.gcd_comm]) (a, b) rfl
  obtain ⟨q, h1, h2, h3⟩ := L
  have q0 : q.2 = 0 := by simpa using h3
  simp [t_common, sti, whc, whb] at h1
  simp [t_common] at hr
  rw [h1] at hr
  simp at hr
  rw [q0, Nat.gcd_zero_right] at h2
  rw [h2] at hr
  exact hr.symm
theorem gcd_run2 (k : Nat) (a b : Nat) (st : Sr) : (callK gls ds (k+1) 22 [.p (.int (a : Nat)), .p (.int (b : Nat))] st = .ok (.p (.int (Nat.gcd a b : Nat))) st) := by
  rw [callK_at (d := ⟨t__law_gcd, 2, 2⟩) rfl rfl]
  generalize hr : endX _ = r
  have L := whC_run (c := fun e s => tst ((sem gls (callK gls ds k) (whc (sti t__law_gcd 0))).e e s)) (b := (sem gls (callK gls ds k) (whb (sti t__law_gcd 0))).s)
    (fun q : Nat × Nat => [some (.p (.int (q.1 : Nat))), some (.p (.int (q.2 : Nat)))]) (fun _ => st) (fun q => decide (q.2 ≠ 0)) (fun q => (q.2, q.1 % q.2)) (fun q => Nat.gcd q.1 q.2 = Nat.gcd a b) (fun q => q.2) (fun q _ => by
      simp [t__law_gcd, sti, whc]) (fun q h0 ht => by
      have ht : q.2 ≠ 0 := by simpa using ht
      have m1 : binP .Mod (.int (q.1 : Nat)) (.int (q.2 : Nat)) = some (.int ((q.1 % q.2 : Nat) : Int)) := by
        rw [b_mod (by omega)]; rfl
      refine ⟨by simp [t__law_gcd, sti, whb, m1], ?_, Nat.mod_lt _ (by omega)⟩
      show Nat.gcd q.2 (q.1 % q.2) = _
      rw [← h0, Nat.gcd_comm q.1 q.2, Nat.gcd_rec q.2 q.1, Nat.gcd_comm]) (a, b) rfl
  obtain ⟨q, h1, h2, h3⟩ := L
  have q0 : q.2 = 0 := by simpa using h3
  simp [t__law_gcd, sti, whc, whb] at h1
  simp [t__law_gcd] at hr
  rw [h1] at hr
  simp at hr
  rw [q0, Nat.gcd_zero_right] at h2
  rw [h2] at hr
  exact hr.symm
theorem w_cm (k : Nat) (d e : Int) (hd : 0 ≤ d) (he : 0 ≤ e) (s : Sr) : callW (callK gls ds (k+1) 6) false [.p (.int d), .p (.int e)] s = .ok (.p (.int (cm d e))) s := by
  have q := gcd_run k d.toNat e.toNat []
  rw [Int.toNat_of_nonneg hd, Int.toNat_of_nonneg he] at q
  exact callW_p2 q
theorem w_cm2 (k : Nat) (d e : Int) (hd : 0 ≤ d) (he : 0 ≤ e) (s : Sr) : callW (callK gls ds (k+1) 22) false [.p (.int d), .p (.int e)] s = .ok (.p (.int (cm d e))) s := by
  have q := gcd_run2 k d.toNat e.toNat []
  rw [Int.toNat_of_nonneg hd, Int.toNat_of_nonneg he] at q
  exact callW_p2 q
/-- do they meet, told -/
def mB (x d y e : Int) : Bool := decide ((x - y) % cm d e = 0)
theorem mB_iff {x d y e : Int} : mB x d y e = true ↔ M (x, d) (y, e) := by
  unfold mB M
  rw [decide_eq_true_eq]
  exact ⟨Int.dvd_of_emod_eq_zero, Int.emod_eq_zero_of_dvd⟩
theorem callW_p4 {f : List Vl → Sr → R Vl} {m : Bool} {x y z w r : P} {s l : Sr} (h : f [.p x, .p y, .p z, .p w] [] = .ok (.p r) l) : callW f m [.p x, .p y, .p z, .p w] s = .ok (.p r) s := callW_p (xs := [x, y, z, w]) h
theorem callW_p5 {f : List Vl → Sr → R Vl} {m : Bool} {x y z w u r : P} {s l : Sr} (h : f [.p x, .p y, .p z, .p w, .p u] [] = .ok (.p r) l) : callW f m [.p x, .p y, .p z, .p w, .p u] s = .ok (.p r) s := callW_p (xs := [x, y, z, w, u]) h
theorem c_meet (k : Nat) (x d y e : Int) (hd : 0 < d) (he : 0 < e) (st : Sr) : callK gls ds (k+2) 7 [.p (.int x), .p (.int d), .p (.int y), .p (.int e)] st = .ok (.p (.bool (mB x d y e))) st := by
  rw [callK_at (d := ⟨t_told_meet, 4, 4⟩) rfl rfl]
  have a1 := w_cm k d e (by omega) (by omega)
  have m1 : binP .Mod (.int (x - y)) (.int (cm d e)) = some (.int ((x - y) % cm d e)) := b_mod (cm_pos hd)
  simp [t_told_meet, a1, m1, mB]
theorem w_meet (k : Nat) (x d y e : Int) (hd : 0 < d) (he : 0 < e) (s : Sr) : callW (callK gls ds (k+2) 7) false [.p (.int x), .p (.int d), .p (.int y), .p (.int e)] s = .ok (.p (.bool (mB x d y e))) s := callW_p4 (c_meet k x d y e hd he [])
theorem rg_1 (n : Int) (h : 0 ≤ n ∧ n ≤ 1000000) : rgP [.int n] = some ((List.range n.toNat).map fun (j : Nat) => .int (j : Int)) := by
  obtain ⟨N, rfl⟩ : ∃ N : Nat, n = N := ⟨n.toNat, by omega⟩
  rw [rgP_1 N (by omega), rng_eq]
  simp
theorem rgV {n : Nat} {i : Nat} {v : Vl} (hv : ((List.range n).map fun (j : Nat) => Vl.p (PyData.int (j : Int)))[i]? = some v) : i < n ∧ v = .p (.int (i : Nat)) := by
  rw [List.getElem?_map] at hv
  obtain ⟨j, h1, h2⟩ := Option.map_eq_some_iff.mp hv
  obtain ⟨h3, h4⟩ := List.getElem?_eq_some_iff.mp h1
  simp at h3 h4
  subst h4
  exact ⟨h3, h2.symm⟩
/-- none of them meet -/
def Apart (es bs : List Int) : Prop := (bs.zip es).Pairwise NM
def nx (es bs : List Int) (i j : Nat) : Bool := mB (bs.getD i 0) (es.getD i 0) (bs.getD j 0) (es.getD j 0)
theorem gd {l : List Int} {i : Nat} (h : i < l.length) : l.getD i 0 = l[i] := by rw [List.getD_eq_getElem?_getD, List.getElem?_eq_getElem h]; rfl
theorem atD {l : List Int} {i : Nat} (h : i < l.length) : L2.atI (l.map PyData.int) (i : Nat) = some (.int (l.getD i 0)) := by rw [atW h, gd h]
theorem Ok.d {es : List Int} (h : Ok es) {i : Nat} (hi : i < es.length) : 1 ≤ es.getD i 0 ∧ es.getD i 0 ≤ 24 := by rw [gd hi]; exact h.b _ (List.getElem_mem _)
theorem apart_ix {es bs : List Int} (hl : bs.length = es.length) : Apart es bs ↔ ∀ i j : Nat, i < es.length → j < i → nx es bs i j = false := by
  unfold Apart
  rw [List.pairwise_iff_getElem]
  constructor
  · intro h i j hi hj
    have := h j i (by simp; omega) (by simp; omega) hj
    rw [List.getElem_zip, List.getElem_zip] at this
    rw [Bool.eq_false_iff]
    intro c
    unfold nx at c
    rw [gd (by omega), gd (by omega), gd (by omega), gd (by omega)] at c
    exact this (M_symm (mB_iff.mp c))
  · intro h j i hj hi hji
    rw [List.getElem_zip, List.getElem_zip]
    intro c
    have hi' : i < es.length := by simp at hi; omega
    have := h i j hi' hji
    unfold nx at this
    rw [gd (by omega), gd (by omega), gd (by omega), gd (by omega), Bool.eq_false_iff] at this
    exact this (mB_iff.mpr (M_symm c))
theorem c_lmeet (k : Nat) (es bs : List Int) (h : Ok es) (hl : bs.length = es.length) : ∃ b : Bool, (b = false ↔ Apart es bs) ∧ ∃ st', callK gls ds (k+2) 23 [.p (wsT es), .p (wsT bs)] [] = .ok (.p (.bool b)) st' := by
  rw [callK_at (d := ⟨t__law_meet, 2, 4⟩) rfl rfl]
  generalize hr : endX _ = r
  have hle := h.l
  have rg := rg_1 (es.length : Int) (by omega)
  rw [Int.toNat_natCast] at rg
  have inn : ∀ (i : Nat) (hi : i < es.length) (x3 : Option Vl), (∃ y3, forL (kV 3) (sem gls (callK gls ds (k+1)) (fob (sti (fob (sti t__law_meet 0)) 0))).s ((List.range i).map fun (j : Nat) => Vl.p (PyData.int (j : Int))) [some (.p (wsT es)), some (.p (wsT bs)), some (.p (.int (i : Nat))), x3] [] = .nx [some (.p (wsT es)), some (.p (wsT bs)), some (.p (.int (i : Nat))), y3] [] ∧ ∀ j, j < i → nx es bs i j = false) ∨
      ∃ w s', forL (kV 3) (sem gls (callK gls ds (k+1)) (fob (sti (fob (sti t__law_meet 0)) 0))).s ((List.range i).map fun (j : Nat) => Vl.p (PyData.int (j : Int))) [some (.p (wsT es)), some (.p (wsT bs)), some (.p (.int (i : Nat))), x3] [] = .rt w s' ∧ w = .p (.bool true) ∧ ¬ Apart es bs := by
    intro i hi x3
    have L := fun hh => forL_ret (tg := kV 3) (b := (sem gls (callK gls ds (k+1)) (fob (sti (fob (sti t__law_meet 0)) 0))).s)
      (fun n e s => s = [] ∧ (∃ y3, e = [some (.p (wsT es)), some (.p (wsT bs)), some (.p (.int (i : Nat))), y3]) ∧ ∀ j, j < i → j < n → nx es bs i j = false)
      (fun w _ => w = .p (.bool true) ∧ ¬ Apart es bs)
      ((List.range i).map fun (j : Nat) => Vl.p (PyData.int (j : Int))) 0 [some (.p (wsT es)), some (.p (wsT bs)), some (.p (.int (i : Nat))), x3] [] ⟨rfl, ⟨x3, rfl⟩, fun j hj hlt => absurd hlt (Nat.not_lt_zero j)⟩ hh
    rcases L (by
      rintro j v e s hv ⟨rfl, ⟨y3, rfl⟩, h3⟩
      rw [Nat.zero_add] at h3 ⊢
      obtain ⟨hj, rfl⟩ := rgV hv
      have f1 := atD (l := es) hi
      have f2 := atD (l := es) (i := j) (by omega)
      have f3 := atD (l := bs) (i := i) (by omega)
      have f4 := atD (l := bs) (i := j) (by omega)
      have e1 := h.d hi
      have e2 := h.d (i := j) (by omega)
      have en : nx es bs i j = mB (bs.getD i 0) (es.getD i 0) (bs.getD j 0) (es.getD j 0) := rfl
      generalize bs.getD i 0 = bi at *
      generalize bs.getD j 0 = bj at *
      generalize es.getD i 0 = ei at *
      generalize es.getD j 0 = ej at *
      have a1 := w_cm2 k ei ej (by omega) (by omega)
      have m1 : binP .Mod (.int (bi - bj)) (.int (cm ei ej)) = some (.int ((bi - bj) % cm ei ej)) := b_mod (cm_pos (by omega))
      refine ⟨[some (.p (wsT es)), some (.p (wsT bs)), some (.p (.int (i : Nat))), some (.p (.int (j : Nat)))], [], by simp, ?_⟩
      by_cases c : (bi - bj) % cm ei ej = 0
      · refine .inr ⟨.p (.bool true), [], by simp [t__law_meet, sti, fob, f1, f2, f3, f4, a1, m1, c], rfl, fun q => ?_⟩
        have := (apart_ix hl).mp q i j hi hj
        rw [en] at this
        unfold mB at this
        simp [c] at this
      · refine .inl ⟨[some (.p (wsT es)), some (.p (wsT bs)), some (.p (.int (i : Nat))), some (.p (.int (j : Nat)))], [], by simp [t__law_meet, sti, fob, f1, f2, f3, f4, a1, m1, c], rfl, ⟨_, rfl⟩, fun j' hj' hlt => ?_⟩
        by_cases q : j' = j
        · subst q; rw [en]; unfold mB; simp [c]
        · exact h3 j' hj' (by omega)) with ⟨e', s', h1, rfl, ⟨y3, rfl⟩, h2⟩ | ⟨w, s', h1, h2⟩
    · exact .inl ⟨y3, h1, fun j hj => h2 j hj (by simp; omega)⟩
    · exact .inr ⟨w, s', h1, h2⟩
  have L := fun hh => forL_ret (tg := kV 2) (b := (sem gls (callK gls ds (k+1)) (fob (sti t__law_meet 0))).s)
    (fun n e s => s = [] ∧ (∃ y2 y3, e = [some (.p (wsT es)), some (.p (wsT bs)), y2, y3]) ∧ ∀ i j : Nat, i < es.length → i < n → j < i → nx es bs i j = false)
    (fun w _ => w = .p (.bool true) ∧ ¬ Apart es bs)
    ((List.range es.length).map fun (j : Nat) => Vl.p (PyData.int (j : Int))) 0 [some (.p (wsT es)), some (.p (wsT bs)), none, none] [] ⟨rfl, ⟨none, none, rfl⟩, fun i j hi hlt => absurd hlt (Nat.not_lt_zero i)⟩ hh
  have L := L (by
    rintro i v e s hv ⟨rfl, ⟨y2, y3, rfl⟩, h3⟩
    rw [Nat.zero_add] at h3 ⊢
    obtain ⟨hi, rfl⟩ := rgV hv
    refine ⟨[some (.p (wsT es)), some (.p (wsT bs)), some (.p (.int (i : Nat))), y3], [], by simp, ?_⟩
    have rgi := rg_1 (i : Int) (by omega)
    rw [Int.toNat_natCast] at rgi
    have e0 : fob (sti t__law_meet 0) = .cons (sti (fob (sti t__law_meet 0)) 0) .nil := rfl
    have fa := fo_at (gl := gls) (F := callK gls ds (k+1)) (t := sti (fob (sti t__law_meet 0)) 0) (e := [some (.p (wsT es)), some (.p (wsT bs)), some (.p (.int (i : Nat))), y3]) (s := []) (s' := []) (vs := (List.range i).map fun (j : Nat) => Vl.p (PyData.int (j : Int))) ⟨_, _, _, _, rfl⟩ (by
      simp [t__law_meet, sti, fob, foi, rgi, Function.comp_def])
    have ev : ∀ x, (sem gls (callK gls ds (k+1)) (sti (fob (sti t__law_meet 0)) 0)).s [some (.p (wsT es)), some (.p (wsT bs)), some (.p (.int (i : Nat))), y3] [] = x → (sem gls (callK gls ds (k+1)) (fob (sti t__law_meet 0))).s [some (.p (wsT es)), some (.p (wsT bs)), some (.p (.int (i : Nat))), y3] [] = x := fun x hx => by
      rw [e0, s_cons_s]
      show ((sem gls _ (sti (fob (sti t__law_meet 0)) 0)).s _ _).th _ = _
      rw [hx]
      exact th_id x
    rcases inn i hi y3 with ⟨z3, h4, h5⟩ | ⟨w, s', h4, h5⟩
    · refine .inl ⟨[some (.p (wsT es)), some (.p (wsT bs)), some (.p (.int (i : Nat))), z3], [], ev _ (fa.trans h4), rfl, ⟨_, _, rfl⟩, fun i' j hi' hlt hj => ?_⟩
      by_cases q : i' = i
      · subst q; exact h5 j hj
      · exact h3 i' j hi' (by omega) hj
    · exact .inr ⟨w, s', ev _ (fa.trans h4), h5⟩)
  have e0 : t__law_meet = .cons (sti t__law_meet 0) (.cons (sti t__law_meet 1) .nil) := rfl
  have fa := fo_at (gl := gls) (F := callK gls ds (k+1)) (t := sti t__law_meet 0) (e := [some (.p (wsT es)), some (.p (wsT bs)), none, none]) (s := []) (s' := []) (vs := (List.range es.length).map fun (j : Nat) => Vl.p (PyData.int (j : Int))) ⟨_, _, _, _, rfl⟩ (by
    simp [t__law_meet, sti, foi, rg, Function.comp_def])
  have es' : ([Vl.p (wsT es), .p (wsT bs)].map some ++ List.replicate (4 - 2) none) = [some (.p (wsT es)), some (.p (wsT bs)), none, none] := rfl
  simp only [es'] at hr
  rw [e0] at hr
  simp only [s_cons_s] at hr
  rw [fa] at hr
  rcases L with ⟨e', s', h1, rfl, ⟨y2, y3, rfl⟩, h2⟩ | ⟨w, s', h1, rfl, h2⟩
  · have h1' : forL (sem gls (callK gls ds (k+1)) (fot (sti t__law_meet 0))).k (sem gls (callK gls ds (k+1)) (fob (sti t__law_meet 0))).s ((List.range es.length).map fun (j : Nat) => Vl.p (PyData.int (j : Int))) [some (.p (wsT es)), some (.p (wsT bs)), none, none] [] = _ := h1
    rw [h1'] at hr
    simp [t__law_meet, sti] at hr
    refine ⟨false, ?_, _, hr.symm⟩
    have q : Apart es bs := (apart_ix hl).mpr fun i j hi hj => h2 i j hi (by simp; omega) hj
    simp [q]
  · have h1' : forL (sem gls (callK gls ds (k+1)) (fot (sti t__law_meet 0))).k (sem gls (callK gls ds (k+1)) (fob (sti t__law_meet 0))).s ((List.range es.length).map fun (j : Nat) => Vl.p (PyData.int (j : Int))) [some (.p (wsT es)), some (.p (wsT bs)), none, none] [] = _ := h1
    rw [h1'] at hr
    simp at hr
    refine ⟨true, ?_, _, hr.symm⟩
    simp [h2]
end K69
end
section
set_option linter.all false
set_option maxRecDepth 100000
set_option maxHeartbeats 1000000
namespace K69
open PySem Mi
/-! lists of tuples of ints -/
theorem cl_ints (ns : List Int) : PyData.canLayAll0 (ns.map .int) = true := by
  induction ns with
  | nil => rfl
  | cons n r ih => simp [PyData.canLayAll0, PyData.canLay0, ih]
theorem dp_ints (ns : List Int) : PyData.depthAll (ns.map .int) ≤ 1 := by
  induction ns with
  | nil => simp [PyData.depthAll]
  | cons n r ih => simp only [List.map_cons, PyData.depthAll, PyData.depth]; omega
theorem sh_WW (l : List (List Int)) : sh (.list (l.map wsT)) = true := by
  have h1 : PyData.canLayAll0 (l.map wsT) = true := by
    induction l with
    | nil => rfl
    | cons n r ih => simp [PyData.canLayAll0, PyData.canLay0, ih, wsT, cl_ints]
  have h2 : PyData.depthAll (l.map wsT) ≤ 2 := by
    clear h1
    induction l with
    | nil => simp [PyData.depthAll]
    | cons n r ih =>
      have := dp_ints n
      simp only [List.map_cons, PyData.depthAll, wsT, PyData.depth] at ih ⊢
      omega
  unfold sh SeqAt.shaped
  simp [PyData.canLay0, PyData.depth, h1]
  omega
theorem ne_WW (l : List (List Int)) : cmpP .NotEq (.list (l.map wsT)) (.list []) = some (!decide (l = [])) := by
  have h : cmpP .NotEq (.list (l.map wsT)) (.list []) = some (!PyData.eqv (.list (l.map wsT)) (.list [])) := by
    show (if (sh _ && sh _) = true then some _ else none) = _
    rw [sh_WW, show sh (.list []) = true from sh_WW []]
    rfl
  rw [h]
  cases l <;> simp [PyData.eqv, PyData.eqvAll]
theorem al_ints : ∀ a b : List Int, W.alikeAll (a.map PyData.int) (b.map .int) = true
  | [], _ => by simp [W.alikeAll]
  | x :: a, [] => by simp [W.alikeAll]
  | x :: a, y :: b => by simp [W.alikeAll, W.alike, al_ints a b]
theorem minD_mem : ∀ (xs : List P) (x : P), W.minD x xs ∈ x :: xs := by
  intro xs
  unfold W.minD
  induction xs with
  | nil => intro x; simp
  | cons y ys ih =>
    intro x
    rw [List.foldl_cons]
    have := ih (if W.dataLt y x = true then y else x)
    rcases List.mem_cons.mp this with h | h
    · rw [h]; split <;> simp
    · exact List.mem_cons_of_mem _ (List.mem_cons_of_mem _ h)
theorem min_WW (l : List (List Int)) (hl : l ≠ []) : ∃ m ∈ l, biP .min [.list (l.map wsT)] = some (wsT m) := by
  obtain ⟨x, r, rfl⟩ := List.exists_cons_of_ne_nil hl
  have h : okMx ((x :: r).map wsT) = true := by
    unfold okMx
    rw [Bool.and_eq_true]
    refine ⟨?_, ?_⟩
    · simp only [List.all_map, List.all_eq_true, Function.comp]
      exact fun a _ b _ => by simp [wsT, W.alike, al_ints]
    · simp only [List.all_map, List.all_eq_true, Function.comp]
      intro a _
      rw [Bool.and_eq_true]
      refine ⟨rfl, ?_⟩
      have := dp_ints a
      simp only [wsT, PyData.depth, decide_eq_true_eq]
      omega
  have e : biP .min [.list ((x :: r).map wsT)] = some (W.minD (wsT x) (r.map wsT)) := by
    rw [List.map_cons] at h ⊢
    show (if okMx (wsT x :: r.map wsT) = true then some (W.minD (wsT x) (r.map wsT)) else none) = _
    rw [if_pos h]
  have hm := minD_mem (r.map wsT) (wsT x)
  rw [← List.map_cons] at hm
  obtain ⟨m, h1, h2⟩ := List.mem_map.mp hm
  exact ⟨m, h1, by rw [e, ← h2]⟩
/-! two on one day: there is one -/
theorem bez (a b : Nat) : ∃ x y : Int, (a : Int) * x + b * y = (Nat.gcd a b : Nat) := by
  induction a, b using Nat.gcd.induction with
  | H0 n => exact ⟨0, 1, by simp⟩
  | H1 m n hm ih =>
    obtain ⟨x, y, h⟩ := ih
    refine ⟨y - (n / m : Nat) * x, x, ?_⟩
    rw [Nat.gcd_rec, ← h]
    have e : ((n % m : Nat) : Int) = (n : Int) - m * (n / m : Nat) := by
      have := Nat.mod_add_div n m
      have h2 : ((n % m : Nat) : Int) + ((m * (n / m) : Nat) : Int) = (n : Int) := by exact_mod_cast this
      rw [Int.natCast_mul] at h2
      omega
    rw [e, Int.mul_sub, Int.sub_mul, Int.mul_assoc]
    omega
theorem crt {x d y e : Int} (hd : 0 < d) (he : 0 < e) (h : M (x, d) (y, e)) : ∃ n : Nat, (x + (n : Int) * d - y) % e = 0 ∧ y ≤ x + (n : Int) * d := by
  obtain ⟨u, v, hb⟩ := bez d.toNat e.toNat
  rw [Int.toNat_of_nonneg (by omega), Int.toNat_of_nonneg (by omega)] at hb
  unfold M at h
  obtain ⟨c, hc⟩ := h
  simp only at hc
  have hc : x - y = (Nat.gcd d.toNat e.toNat : Nat) * c := hc
  rw [← hb] at hc
  have h0 : 0 ≤ (-(u * c)) % e := Int.emod_nonneg _ (by omega)
  refine ⟨((-(u * c)) % e).toNat + e.toNat * (y - x).toNat, ?_, ?_⟩
  · apply Int.emod_eq_zero_of_dvd
    have e1 : (-(u * c)) % e = -(u * c) - e * ((-(u * c)) / e) := by have := Int.emod_add_mul_ediv (-(u * c)) e; omega
    push_cast
    rw [Int.toNat_of_nonneg h0, Int.toNat_of_nonneg (by omega : 0 ≤ e), e1]
    refine ⟨v * c - ((-(u * c)) / e) * d + ((y - x).toNat : Int) * d, ?_⟩
    generalize (-(u * c)) / e = q
    generalize ((y - x).toNat : Int) = t
    have : x = y + (d * u + e * v) * c := by omega
    rw [this]
    simp only [Int.add_mul, Int.mul_add, Int.sub_mul, Int.mul_sub, Int.neg_mul, Int.mul_neg]
    have a1 : d * u * c = u * c * d := by rw [Int.mul_comm, ← Int.mul_assoc, Int.mul_comm c d, Int.mul_assoc, Int.mul_comm c u, Int.mul_comm]
    have a2 : e * v * c = e * (v * c) := Int.mul_assoc ..
    have a3 : e * q * d = e * (q * d) := Int.mul_assoc ..
    have a4 : e * t * d = e * (t * d) := Int.mul_assoc ..
    omega
  · have h1 : (0 : Int) ≤ ((((-(u * c)) % e).toNat + e.toNat * (y - x).toNat : Nat) : Int) := by omega
    have h2 : ((y - x).toNat : Int) ≤ ((((-(u * c)) % e).toNat + e.toNat * (y - x).toNat : Nat) : Int) := by
      have : (y - x).toNat ≤ e.toNat * (y - x).toNat := Nat.le_mul_of_pos_left _ (by omega)
      omega
    have h3 : ((((-(u * c)) % e).toNat + e.toNat * (y - x).toNat : Nat) : Int) * 1 ≤ ((((-(u * c)) % e).toNat + e.toNat * (y - x).toNat : Nat) : Int) * d := Int.mul_le_mul_of_nonneg_left (by omega) h1
    omega
end K69
end
section
set_option linter.all false
set_option maxRecDepth 100000
set_option maxHeartbeats 1000000
namespace K69
open PySem Mi
/-! first_meeting -/
def tF : T := sti t_first_meeting 3
def tF2 : T := sti (fob tF) 0
def tThen : T := thn (sti (fob tF2) 0)
def EF (es bs : List Int) (x3 x4 x5 x6 x7 : Option Vl) : En := [some (.p (wsT es)), some (.p (wsT bs)), some (.r 0), x3, x4, x5, x6, x7]
def SF (l : List (List Int)) : Sr := [.lp 0 (l.map wsT)]
theorem w_while (F : Nat → List Vl → Sr → R Vl) (es bs : List Int) (i j : Nat) (l : List (List Int)) (hj : j < i) (hi : i < es.length) (hl : bs.length = es.length) (h : Ok es) (hm : nx es bs i j = true) :
    ∃ b : Int, (sem gls F (sti tThen 1)).s (EF es bs (some (.p (.int (i : Nat)))) (some (.p (.int (bs.getD i 0)))) (some (.p (.int (es.getD i 0)))) (some (.p (.int (j : Nat)))) (some (.p (.int (bs.getD i 0))))) (SF l) =
      .nx (EF es bs (some (.p (.int (i : Nat)))) (some (.p (.int (bs.getD i 0)))) (some (.p (.int (es.getD i 0)))) (some (.p (.int (j : Nat)))) (some (.p (.int b)))) (SF l) := by
  have e1 := h.d hi
  have e2 := h.d (i := j) (by omega)
  have f2 := atD (l := es) (i := j) (by omega)
  have f4 := atD (l := bs) (i := j) (by omega)
  have hm' : M (bs.getD i 0, es.getD i 0) (bs.getD j 0, es.getD j 0) := mB_iff.mp hm
  generalize bs.getD i 0 = bi at *
  generalize bs.getD j 0 = bj at *
  generalize es.getD i 0 = ei at *
  generalize es.getD j 0 = ej at *
  obtain ⟨K, k1, k2⟩ := crt (by omega) (by omega) hm'
  have L := whC_run (c := fun e s => tst ((sem gls F (whc (sti tThen 1))).e e s)) (b := (sem gls F (whb (sti tThen 1))).s)
    (fun n : Nat => EF es bs (some (.p (.int (i : Nat)))) (some (.p (.int bi))) (some (.p (.int ei))) (some (.p (.int (j : Nat)))) (some (.p (.int (bi + (n : Int) * ei))))) (fun _ => SF l)
    (fun n => decide ((bi + (n : Int) * ei - bj) % ej ≠ 0) || decide (bi + (n : Int) * ei < bj)) (fun n => n + 1) (fun n => n ≤ K) (fun n => K - n) (fun n _ => by
      have m1 : binP .Mod (.int (bi + (n : Int) * ei - bj)) (.int ej) = some (.int ((bi + (n : Int) * ei - bj) % ej)) := b_mod (by omega)
      by_cases c : (bi + (n : Int) * ei - bj) % ej = 0
      · simp [tThen, tF2, tF, t_first_meeting, sti, fob, thn, whc, EF, f2, f4, m1, c]
      · simp [tThen, tF2, tF, t_first_meeting, sti, fob, thn, whc, EF, f2, f4, m1, c]) (fun n hn ht => by
      have nk : n ≠ K := fun q => by
        subst q
        have : ¬ bi + (n : Int) * ei < bj := by omega
        simp [k1, this] at ht
      refine ⟨?_, by omega, by omega⟩
      have e3 : bi + (n : Int) * ei + ei = bi + ((n + 1 : Nat) : Int) * ei := by push_cast; rw [Int.add_mul]; omega
      rw [← e3]
      simp [tThen, tF2, tF, t_first_meeting, sti, fob, thn, whb, EF]) 0 (Nat.zero_le _)
  obtain ⟨n, h1, h2, h3⟩ := L
  refine ⟨bi + (n : Int) * ei, ?_⟩
  have e4 : (sem gls F (sti tThen 1)).s = whC (fun e s => tst ((sem gls F (whc (sti tThen 1))).e e s)) (sem gls F (whb (sti tThen 1))).s := rfl
  rw [e4]
  simp only [Int.natCast_zero, Int.zero_mul, Int.add_zero] at h1
  simpa using h1
theorem w_inner (k : Nat) (es bs : List Int) (i : Nat) (hi : i < es.length) (hl : bs.length = es.length) (h : Ok es) (x6 x7 : Option Vl) (l0 : List (List Int)) (hl0 : l0.length ≤ 1000) :
    ∃ y6 y7 l, forL (kV 6) (sem gls (callK gls ds (k+2)) (fob tF2)).s ((List.range i).map fun (j : Nat) => Vl.p (PyData.int (j : Int))) (EF es bs (some (.p (.int (i : Nat)))) (some (.p (.int (bs.getD i 0)))) (some (.p (.int (es.getD i 0)))) x6 x7) (SF l0) =
      .nx (EF es bs (some (.p (.int (i : Nat)))) (some (.p (.int (bs.getD i 0)))) (some (.p (.int (es.getD i 0)))) y6 y7) (SF l) ∧ (l = [] ↔ l0 = [] ∧ ∀ j, j < i → nx es bs i j = false) ∧ l.length ≤ l0.length + i := by
  have L := fun hh => forL_inv (tg := kV 6) (b := (sem gls (callK gls ds (k+2)) (fob tF2)).s)
    (fun n e s => ∃ y6 y7 l, e = EF es bs (some (.p (.int (i : Nat)))) (some (.p (.int (bs.getD i 0)))) (some (.p (.int (es.getD i 0)))) y6 y7 ∧ s = SF l ∧ (l = [] ↔ l0 = [] ∧ ∀ j, j < i → j < n → nx es bs i j = false) ∧ l.length ≤ l0.length + n)
    ((List.range i).map fun (j : Nat) => Vl.p (PyData.int (j : Int))) 0 (EF es bs (some (.p (.int (i : Nat)))) (some (.p (.int (bs.getD i 0)))) (some (.p (.int (es.getD i 0)))) x6 x7) (SF l0) ⟨x6, x7, l0, rfl, rfl, by simp, Nat.le_refl _⟩ hh
  have hli := h.l
  obtain ⟨e', s', h1, y6, y7, l, h2, h3, h4, h5⟩ := L (by
    rintro j v e s hv ⟨y6, y7, l, rfl, rfl, h4, h5⟩
    rw [Nat.zero_add] at h4 h5 ⊢
    obtain ⟨hj, rfl⟩ := rgV hv
    have f2 := atD (l := es) (i := j) (by omega)
    have f4 := atD (l := bs) (i := j) (by omega)
    have e1 := h.d hi
    have e2 := h.d (i := j) (by omega)
    have a1 := w_meet k (bs.getD i 0) (es.getD i 0) (bs.getD j 0) (es.getD j 0) (by omega) (by omega)
    have en : nx es bs i j = mB (bs.getD i 0) (es.getD i 0) (bs.getD j 0) (es.getD j 0) := rfl
    rw [← en] at a1
    refine ⟨EF es bs (some (.p (.int (i : Nat)))) (some (.p (.int (bs.getD i 0)))) (some (.p (.int (es.getD i 0)))) (some (.p (.int (j : Nat)))) y7, SF l, rfl, ?_⟩
    have e0 : fob tF2 = .cons (sti (fob tF2) 0) .nil := rfl
    cases c : nx es bs i j with
    | false =>
      rw [c] at a1
      refine ⟨EF es bs (some (.p (.int (i : Nat)))) (some (.p (.int (bs.getD i 0)))) (some (.p (.int (es.getD i 0)))) (some (.p (.int (j : Nat)))) y7, SF l, .inl ?_, _, _, l, rfl, rfl, ?_, by omega⟩
      · simp [tF2, tF, t_first_meeting, sti, fob, EF, f2, f4, a1, -List.getD_eq_getElem?_getD]
      · rw [h4]
        refine ⟨fun q => ⟨q.1, fun j' h1 h2 => ?_⟩, fun q => ⟨q.1, fun j' h1 h2 => q.2 j' h1 (by omega)⟩⟩
        by_cases e : j' = j
        · subst e; exact c
        · exact q.2 j' h1 (by omega)
    | true =>
      have cc := c
      rw [c] at a1
      have e3 := if_at (gl := gls) (F := callK gls ds (k+2)) (t := sti (fob tF2) 0) (e := EF es bs (some (.p (.int (i : Nat)))) (some (.p (.int (bs.getD i 0)))) (some (.p (.int (es.getD i 0)))) (some (.p (.int (j : Nat)))) y7) (s := SF l) (s' := SF l) ⟨_, _, _, _, rfl⟩ (by
        simp [tF2, tF, t_first_meeting, sti, fob, ifc, EF, f2, f4, a1, -List.getD_eq_getElem?_getD])
      obtain ⟨b, hw⟩ := w_while (callK gls ds (k+2)) es bs i j l hj hi hl h cc
      refine ⟨EF es bs (some (.p (.int (i : Nat)))) (some (.p (.int (bs.getD i 0)))) (some (.p (.int (es.getD i 0)))) (some (.p (.int (j : Nat)))) (some (.p (.int b))), SF (l ++ [[b, (j : Int), (i : Int)]]), .inl ?_, _, _, _, rfl, rfl, ?_, by simp; omega⟩
      · have e4 : thn (sti (fob tF2) 0) = .cons (sti tThen 0) (.cons (sti tThen 1) (.cons (sti tThen 2) .nil)) := rfl
        rw [e0, s_cons_s]
        show ((sem gls _ (sti (fob tF2) 0)).s _ _).th _ = _
        rw [e3, e4, s_cons_s]
        show (((sem gls _ (sti tThen 0)).s _ _).th _).th _ = _
        have b0 : (sem gls (callK gls ds (k+2)) (sti tThen 0)).s (EF es bs (some (.p (.int (i : Nat)))) (some (.p (.int (bs.getD i 0)))) (some (.p (.int (es.getD i 0)))) (some (.p (.int (j : Nat)))) y7) (SF l) = .nx (EF es bs (some (.p (.int (i : Nat)))) (some (.p (.int (bs.getD i 0)))) (some (.p (.int (es.getD i 0)))) (some (.p (.int (j : Nat)))) (some (.p (.int (bs.getD i 0))))) (SF l) := by
          simp [tThen, tF2, tF, t_first_meeting, sti, fob, thn, EF]
        rw [b0, th_nx, s_cons_s]
        show (((sem gls _ (sti tThen 1)).s _ _).th _).th _ = _
        rw [hw, th_nx]
        have ap : appV (.r 0) (.p (.tuple [.int b, .int (j : Int), .int (i : Int)])) (SF l) = some (SF (l ++ [[b, (j : Int), (i : Int)]])) := by
          unfold SF
          rw [app_lp (n := 0) (xs := l.map wsT) rfl (by simp; unfold lim; omega)]
          simp [wsT]
        simp [tThen, tF2, tF, t_first_meeting, sti, fob, thn, EF, ap, SF, isL]
        simp [SF] at ap
        simp [ap]
      · refine ⟨fun q => absurd q (by simp), fun q => ?_⟩
        have := q.2 j hj (by omega)
        rw [cc] at this; cases this)
  rw [Nat.zero_add] at h4 h5
  rw [List.length_map, List.length_range] at h4 h5
  refine ⟨y6, y7, l, by rw [h1, h2, h3], ?_, h5⟩
  rw [h4]
  exact ⟨fun q => ⟨q.1, fun j hj => q.2 j hj hj⟩, fun q => ⟨q.1, fun j hj _ => q.2 j hj⟩⟩
theorem c_first (k : Nat) (es bs : List Int) (h : Ok es) (g : Bg es bs) : ∃ v, (v = .none ∧ Apart es bs ∨ (∃ xs, v = .tuple xs) ∧ ¬ Apart es bs) ∧ ∃ st', callK gls ds (k+5) 8 [.p (wsT es), .p (wsT bs)] [] = .ok (.p v) st' := by
  rw [callK_at (d := ⟨t_first_meeting, 2, 8⟩) rfl rfl]
  generalize hr : endX _ = r
  have hl := g.1
  have hle := h.l
  have a1 := fun s => callW_p1 (f := callK gls ds (k+4) 4) (m := false) (s := s) (c_look k es h [])
  have a2 := fun s => callW_p2 (f := callK gls ds (k+4) 5) (m := false) (s := s) (c_begun (k+1) es bs h g [])
  have gv : ∀ (i : Nat) (v : Vl), (enumP 0 (zpP (bs.map PyData.int) (es.map .int)))[i]? = some v → i < es.length ∧ v = .p (.tuple [.int (i : Nat), .tuple [.int (bs.getD i 0), .int (es.getD i 0)]]) := fun i v hv => by
    obtain ⟨d, d2, h1, h2, rfl⟩ := enz_get _ _ _ _ _ hv
    rw [List.getElem?_map] at h1 h2
    obtain ⟨x, h3, rfl⟩ := Option.map_eq_some_iff.mp h1
    obtain ⟨y, h4, rfl⟩ := Option.map_eq_some_iff.mp h2
    have hi := (List.getElem?_eq_some_iff.mp h4).1
    refine ⟨hi, ?_⟩
    rw [List.getD_eq_getElem?_getD, List.getD_eq_getElem?_getD, h3, h4, Nat.zero_add]
    rfl
  have ezl : (enumP 0 (zpP (bs.map PyData.int) (es.map .int))).length = es.length := by
    have gen : ∀ (a b : List Int) (n : Nat), a.length = b.length → (enumP n (zpP (a.map PyData.int) (b.map .int))).length = b.length := by
      intro a
      induction a with
      | nil => intro b n hab; cases b with
        | nil => rfl
        | cons _ _ => simp at hab
      | cons x a ih => intro b n hab; cases b with
        | nil => simp at hab
        | cons y b => simp [zpP, enumP, ih b (n + 1) (by simpa using hab)]
    exact gen bs es 0 hl
  have L := fun hh => forL_inv (tg := (sem gls (callK gls ds (k+4)) (fot tF)).k) (b := (sem gls (callK gls ds (k+4)) (fob tF)).s)
    (fun n e s => ∃ y3 y4 y5 y6 y7 l, e = EF es bs y3 y4 y5 y6 y7 ∧ s = SF l ∧ (l = [] ↔ ∀ i j : Nat, i < es.length → i < n → j < i → nx es bs i j = false) ∧ l.length ≤ n * 12)
    (enumP 0 (zpP (bs.map PyData.int) (es.map .int))) 0 (EF es bs none none none none none) (SF []) ⟨none, none, none, none, none, [], rfl, rfl, ⟨fun _ i j _ hlt => absurd hlt (Nat.not_lt_zero i), fun _ => rfl⟩, Nat.le_refl _⟩ hh
  obtain ⟨e', s', h1, y3, y4, y5, y6, y7, l, rfl, rfl, h4, h5⟩ := L (by
    rintro i v e s hv ⟨y3, y4, y5, y6, y7, l, rfl, rfl, h4, h5⟩
    rw [Nat.zero_add] at h4 h5 ⊢
    obtain ⟨hi, rfl⟩ := gv i v hv
    refine ⟨EF es bs (some (.p (.int (i : Nat)))) (some (.p (.int (bs.getD i 0)))) (some (.p (.int (es.getD i 0)))) y6 y7, SF l, by simp [tF, t_first_meeting, sti, fot, cnt, EF], ?_⟩
    have rgi := rg_1 (i : Int) (by omega)
    rw [Int.toNat_natCast] at rgi
    have fa := fo_at (gl := gls) (F := callK gls ds (k+4)) (t := tF2) (e := EF es bs (some (.p (.int (i : Nat)))) (some (.p (.int (bs.getD i 0)))) (some (.p (.int (es.getD i 0)))) y6 y7) (s := SF l) (s' := SF l) (vs := (List.range i).map fun (j : Nat) => Vl.p (PyData.int (j : Int))) ⟨_, _, _, _, rfl⟩ (by
      simp [tF2, tF, t_first_meeting, sti, fob, foi, EF, rgi, Function.comp_def])
    obtain ⟨z6, z7, l', q1, q2, q3⟩ := w_inner (k+2) es bs i hi hl h y6 y7 l (by omega)
    have ev : ∀ x, (sem gls (callK gls ds (k+4)) tF2).s (EF es bs (some (.p (.int (i : Nat)))) (some (.p (.int (bs.getD i 0)))) (some (.p (.int (es.getD i 0)))) y6 y7) (SF l) = x → (sem gls (callK gls ds (k+4)) (fob tF)).s (EF es bs (some (.p (.int (i : Nat)))) (some (.p (.int (bs.getD i 0)))) (some (.p (.int (es.getD i 0)))) y6 y7) (SF l) = x := fun x hx => by
      have e0 : fob tF = .cons tF2 .nil := rfl
      rw [e0, s_cons_s]
      show ((sem gls _ tF2).s _ _).th _ = _
      rw [hx]
      exact th_id x
    refine ⟨_, _, .inl (ev _ (fa.trans q1)), _, _, _, _, _, l', rfl, rfl, ?_, by omega⟩
    rw [q2, h4]
    refine ⟨fun q i' j h1 h2 h3 => ?_, fun q => ⟨fun i' j h1 h2 h3 => q i' j h1 (by omega) h3, fun j hj => q i j hi (by omega) hj⟩⟩
    by_cases e : i' = i
    · subst e; exact q.2 j h3
    · exact q.1 i' j h1 (by omega) h3)
  rw [Nat.zero_add, ezl] at h4 h5
  have e0 : t_first_meeting = .cons (sti t_first_meeting 0) (.cons (sti t_first_meeting 1) (.cons (sti t_first_meeting 2) (.cons tF (.cons (sti t_first_meeting 4) .nil)))) := rfl
  have es0 : ([Vl.p (wsT es), .p (wsT bs)].map some ++ List.replicate (8 - 2) none) = [some (.p (wsT es)), some (.p (wsT bs)), none, none, none, none, none, none] := rfl
  have b0 : (sem gls (callK gls ds (k+4)) (sti t_first_meeting 0)).s [some (.p (wsT es)), some (.p (wsT bs)), none, none, none, none, none, none] [] = .nx [some (.p (wsT es)), some (.p (wsT bs)), none, none, none, none, none, none] [] := by
    simp [t_first_meeting, sti, a1]
  have b1 : (sem gls (callK gls ds (k+4)) (sti t_first_meeting 1)).s [some (.p (wsT es)), some (.p (wsT bs)), none, none, none, none, none, none] [] = .nx [some (.p (wsT es)), some (.p (wsT bs)), none, none, none, none, none, none] [] := by
    simp [t_first_meeting, sti, a2]
  have b2 : (sem gls (callK gls ds (k+4)) (sti t_first_meeting 2)).s [some (.p (wsT es)), some (.p (wsT bs)), none, none, none, none, none, none] [] = .nx (EF es bs none none none none none) (SF []) := by
    simp [t_first_meeting, sti, EF, SF]
  have fa := fo_at (gl := gls) (F := callK gls ds (k+4)) (t := tF) (e := EF es bs none none none none none) (s := SF []) (s' := SF []) (vs := enumP 0 (zpP (bs.map PyData.int) (es.map .int))) ⟨_, _, _, _, rfl⟩ (by
    simp [tF, t_first_meeting, sti, foi, EF, wsT])
  simp only [es0] at hr
  rw [e0] at hr
  simp only [s_cons_s] at hr
  rw [b0, th_nx, b1, th_nx, b2, th_nx, fa, h1, th_nx] at hr
  have apx : l = [] ↔ Apart es bs := by
    rw [h4, apart_ix hl]
    exact ⟨fun q i j hi hj => q i j hi hi hj, fun q i j hi _ hj => q i j hi hj⟩
  have nw := ne_WW l
  by_cases c : l = []
  · subst c
    simp [t_first_meeting, sti, EF, SF, dd] at hr
    simp at nw
    simp [nw] at hr
    exact ⟨_, .inl ⟨rfl, apx.mp rfl⟩, _, hr.symm⟩
  · obtain ⟨m, hm, hmin⟩ := min_WW l c
    simp [c] at nw
    simp [t_first_meeting, sti, EF, SF, dd, nw, hmin] at hr
    exact ⟨_, .inr ⟨⟨_, rfl⟩, fun q => c (apx.mpr q)⟩, _, hr.symm⟩
end K69
end
section
set_option linter.all false
set_option maxRecDepth 100000
set_option maxHeartbeats 1000000
namespace K69
open PySem Mi
/-! told_load -/
def lst1 (q : Nat × Nat) (d : Nat) : Nat × Nat := ((q.1 * d + q.2) / Nat.gcd (q.1 * d + q.2) (q.2 * d), (q.2 * d) / Nat.gcd (q.1 * d + q.2) (q.2 * d))
def ldf (ds : List Nat) : Nat × Nat := ds.foldl lst1 (0, 1)
theorem ldf_snoc (ds : List Nat) (d : Nat) : ldf (ds ++ [d]) = lst1 (ldf ds) d := by unfold ldf; rw [List.foldl_append]; rfl
theorem ld_snoc (N : Nat) (ds : List Nat) (d : Nat) : ld N (ds ++ [d]) = ld N ds + N / d := by simp [ld]
theorem rev_ind {α : Type} {p : List α → Prop} (h0 : p []) (h1 : ∀ l x, p l → p (l ++ [x])) : ∀ l, p l := by
  intro l
  have : p l.reverse.reverse := by
    induction l.reverse with
    | nil => exact h0
    | cons x r ih => rw [List.reverse_cons]; exact h1 _ _ ih
  rwa [List.reverse_reverse] at this
theorem ldf_ok : ∀ ds : List Nat, (∀ d ∈ ds, 1 ≤ d ∧ d ≤ 24) → 1 ≤ (ldf ds).2 ∧ (ldf ds).2 ≤ 24 ^ ds.length ∧ ∀ N, (∀ d ∈ ds, d ∣ N) → (ldf ds).1 * N = (ldf ds).2 * ld N ds := by
  intro ds
  induction ds using rev_ind with
  | h0 => intro _; simp [ldf, ld]
  | h1 ds d ih =>
    intro hd
    obtain ⟨i1, i2, i3⟩ := ih fun x hx => hd x (List.mem_append_left _ hx)
    have hdd := hd d (by simp)
    rw [ldf_snoc, List.length_append, List.length_singleton]
    generalize ldf ds = q at *
    obtain ⟨t, b⟩ := q
    simp only at i1 i2 i3
    unfold lst1
    simp only
    have bp : 0 < b * d := Nat.mul_pos (by omega) (by omega)
    have gp : 0 < Nat.gcd (t * d + b) (b * d) := Nat.gcd_pos_of_pos_right _ bp
    obtain ⟨A, hA⟩ := Nat.gcd_dvd_left (t * d + b) (b * d)
    obtain ⟨B, hB⟩ := Nat.gcd_dvd_right (t * d + b) (b * d)
    have dA : (t * d + b) / Nat.gcd (t * d + b) (b * d) = A := Nat.div_eq_of_eq_mul_right gp hA
    have dB : (b * d) / Nat.gcd (t * d + b) (b * d) = B := Nat.div_eq_of_eq_mul_right gp hB
    rw [dA, dB]
    generalize Nat.gcd (t * d + b) (b * d) = g at *
    refine ⟨?_, ?_, fun N hN => ?_⟩
    · apply Nat.pos_of_ne_zero
      intro e; rw [e, Nat.mul_zero] at hB; omega
    · have : B ≤ b * d := by rw [hB]; exact Nat.le_mul_of_pos_left _ gp
      have h2 : b * d ≤ 24 ^ ds.length * 24 := Nat.mul_le_mul i2 hdd.2
      rw [Nat.pow_succ]; omega
    · have i3 := i3 N fun x hx => hN x (List.mem_append_left _ hx)
      obtain ⟨c, hc⟩ := hN d (by simp)
      have dc : N / d = c := by rw [hc]; exact Nat.mul_div_cancel_left _ (by omega)
      rw [ld_snoc, dc]
      apply Nat.eq_of_mul_eq_mul_left gp
      rw [← Nat.mul_assoc, ← hA, ← Nat.mul_assoc, ← hB, Nat.add_mul, Nat.mul_add]
      have e1 : t * d * N = b * d * ld N ds := by
        rw [Nat.mul_right_comm, i3, Nat.mul_right_comm]
      have e2 : b * N = b * d * c := by rw [hc, Nat.mul_assoc]
      omega
theorem ldf_le {es : List Int} (h : Ok es) (g : Ex es) : (ldf (es.map Int.toNat)).1 ≤ (ldf (es.map Int.toNat)).2 := by
  obtain ⟨ps, e, g⟩ := g
  have hd : ∀ d ∈ es.map Int.toNat, 1 ≤ d ∧ d ≤ 24 := fun d hd => by
    obtain ⟨x, hx, rfl⟩ := List.mem_map.mp hd
    have := h.b x hx; omega
  have hm : ps.map (fun p => p.2.toNat) = es.map Int.toNat := by rw [← e, List.map_map]; rfl
  obtain ⟨N, hN, hp⟩ : ∃ N : Nat, (∀ d ∈ es.map Int.toNat, d ∣ N) ∧ 0 < N := by
    generalize es.map Int.toNat = ds at hd
    clear hm
    induction ds with
    | nil => exact ⟨1, by simp, by omega⟩
    | cons d r ih =>
      obtain ⟨N, h1, h2⟩ := ih fun x hx => hd x (List.mem_cons_of_mem _ hx)
      refine ⟨d * N, fun x hx => ?_, Nat.mul_pos (by have := hd d List.mem_cons_self; omega) h2⟩
      rcases List.mem_cons.mp hx with rfl | hx
      · exact Nat.dvd_mul_right ..
      · exact Nat.dvd_trans (h1 x hx) (Nat.dvd_mul_left ..)
  obtain ⟨l1, _, l3⟩ := ldf_ok _ hd
  have l3 := l3 N hN
  have le := ld_le g N fun p hp' => hN _ (by rw [← hm]; exact List.mem_map.mpr ⟨p, hp', rfl⟩)
  rw [hm] at le
  have : (ldf (es.map Int.toNat)).1 * N ≤ (ldf (es.map Int.toNat)).2 * N := by rw [l3]; exact Nat.mul_le_mul_left _ le
  exact Nat.le_of_mul_le_mul_right this hp
theorem c_load (k : Nat) (es : List Int) (h : Ok es) (st : Sr) : callK gls ds (k+2) 9 [.p (wsT es)] st = .ok (.p (.tuple [.int ((ldf (es.map Int.toNat)).1 : Nat), .int ((ldf (es.map Int.toNat)).2 : Nat)])) st := by
  rw [callK_at (d := ⟨t_told_load, 1, 5⟩) rfl rfl]
  generalize hr : endX _ = r
  have hl := h.l
  have L := fun hh => forL_inv (tg := kV 3) (b := (sem gls (callK gls ds (k+1)) (fob (sti t_told_load 1))).s)
    (fun n e s => ∃ y3 y4, e = [some (.p (wsT es)), some (.p (.int ((ldf ((es.take n).map Int.toNat)).1 : Nat))), some (.p (.int ((ldf ((es.take n).map Int.toNat)).2 : Nat))), y3, y4] ∧ s = st)
    (es.map fun i => .p (.int i)) 0 [some (.p (wsT es)), some (.p (.int (0 : Nat))), some (.p (.int (1 : Nat))), none, none] st ⟨none, none, rfl, rfl⟩ hh
  obtain ⟨e', s', h1, y3, y4, h2, h3⟩ := L (by
    rintro i v e s hv ⟨y3, y4, rfl, rfl⟩
    rw [Nat.zero_add]
    rw [List.getElem?_map] at hv
    obtain ⟨d, hd, rfl⟩ := Option.map_eq_some_iff.mp hv
    have hi := (List.getElem?_eq_some_iff.mp hd).1
    have db := h.b d (List.mem_of_getElem? hd)
    have tk : (es.take (i + 1)).map Int.toNat = (es.take i).map Int.toNat ++ [d.toNat] := by rw [List.take_add_one, hd]; simp
    rw [tk, ldf_snoc]
    have lo := ldf_ok ((es.take i).map Int.toNat) fun x hx => by
      obtain ⟨y, hy, rfl⟩ := List.mem_map.mp hx
      have := h.b y (List.mem_of_mem_take hy); omega
    have ll : ((es.take i).map Int.toNat).length ≤ 5 := by simp; omega
    have p5 : 24 ^ ((es.take i).map Int.toNat).length ≤ 24 ^ 5 := Nat.pow_le_pow_right (by omega) ll
    generalize ldf ((es.take i).map Int.toNat) = q at *
    obtain ⟨t, b⟩ := q
    obtain ⟨D, rfl⟩ : ∃ D : Nat, d = D := ⟨d.toNat, by omega⟩
    simp only at lo
    rw [Int.toNat_natCast]
    unfold lst1
    simp only
    have bp : 0 < b * D := Nat.mul_pos (by omega) (by omega)
    have gp : 0 < Nat.gcd (t * D + b) (b * D) := Nat.gcd_pos_of_pos_right _ bp
    have gl : Nat.gcd (t * D + b) (b * D) ≤ b * D := Nat.gcd_le_right _ bp
    have bl : b * D ≤ 24 ^ 5 * 24 := Nat.mul_le_mul (by omega) (by omega)
    have m1 : binP .Mult (.int (t : Nat)) (.int (D : Nat)) = some (.int ((t * D : Nat) : Int)) := by rw [mul_okr (by omega)]; simp
    have m2 : binP .Mult (.int (b : Nat)) (.int (D : Nat)) = some (.int ((b * D : Nat) : Int)) := by rw [mul_okr (by omega)]; simp
    have a1 := w_cm k ((t * D + b : Nat) : Int) ((b * D : Nat) : Int) (by omega) (by omega)
    have ec : cm ((t * D + b : Nat) : Int) ((b * D : Nat) : Int) = ((Nat.gcd (t * D + b) (b * D) : Nat) : Int) := by unfold cm; rw [Int.toNat_natCast, Int.toNat_natCast]
    rw [ec] at a1
    have d1 : binP .FloorDiv (.int ((t * D + b : Nat) : Int)) (.int ((Nat.gcd (t * D + b) (b * D) : Nat) : Int)) = some (.int (((t * D + b) / Nat.gcd (t * D + b) (b * D) : Nat) : Int)) := by rw [div_ok (by omega)]; simp
    have d2 : binP .FloorDiv (.int ((b * D : Nat) : Int)) (.int ((Nat.gcd (t * D + b) (b * D) : Nat) : Int)) = some (.int (((b * D) / Nat.gcd (t * D + b) (b * D) : Nat) : Int)) := by rw [div_ok (by omega)]; simp
    have s1 : ((t * D : Nat) : Int) + (b : Nat) = ((t * D + b : Nat) : Int) := by simp
    refine ⟨_, _, rfl, [some (.p (wsT es)), some (.p (.int (((t * D + b) / Nat.gcd (t * D + b) (b * D) : Nat) : Int))), some (.p (.int (((b * D) / Nat.gcd (t * D + b) (b * D) : Nat) : Int))), some (.p (.int (D : Nat))), some (.p (.int ((Nat.gcd (t * D + b) (b * D) : Nat) : Int)))], s, .inl ?_, _, _, rfl, rfl⟩
    generalize Nat.gcd (t * D + b) (b * D) = G at *
    generalize (t * D + b) / G = X1 at *
    generalize (b * D) / G = X2 at *
    generalize hT : t * D + b = TD at *
    generalize b * D = BD at *
    generalize t * D = T0 at *
    simp [t_told_load, sti, fob, m1, m2, s1, a1, d1, d2, -Int.natCast_add, -Int.natCast_mul])
  rw [Nat.zero_add, List.length_map, List.take_length] at h2
  have e0 : t_told_load = .cons (sti t_told_load 0) (.cons (sti t_told_load 1) (.cons (sti t_told_load 2) .nil)) := rfl
  have es0 : ([Vl.p (wsT es)].map some ++ List.replicate (5 - 1) none) = [some (.p (wsT es)), none, none, none, none] := rfl
  have b0 : (sem gls (callK gls ds (k+1)) (sti t_told_load 0)).s [some (.p (wsT es)), none, none, none, none] st = .nx [some (.p (wsT es)), some (.p (.int (0 : Nat))), some (.p (.int (1 : Nat))), none, none] st := by
    simp [t_told_load, sti]
  have fa := fo_at (gl := gls) (F := callK gls ds (k+1)) (t := sti t_told_load 1) (e := [some (.p (wsT es)), some (.p (.int (0 : Nat))), some (.p (.int (1 : Nat))), none, none]) (s := st) (s' := st) (vs := es.map fun i => .p (.int i)) ⟨_, _, _, _, rfl⟩ (by
    simp [t_told_load, sti, foi])
  simp only [es0] at hr
  rw [e0] at hr
  simp only [s_cons_s] at hr
  have h1' : forL (sem gls (callK gls ds (k+1)) (fot (sti t_told_load 1))).k (sem gls (callK gls ds (k+1)) (fob (sti t_told_load 1))).s (es.map fun i => .p (.int i)) [some (.p (wsT es)), some (.p (.int (0 : Nat))), some (.p (.int (1 : Nat))), none, none] st = _ := h1
  rw [b0, th_nx, fa, h1', h2, h3, th_nx] at hr
  simp [t_told_load, sti] at hr
  exact hr.symm
/-! is_free -/
def free (es dy : List Int) (oth : List Nat) (at' : Nat) (day : Int) : Bool := !(oth.any fun o => mB day (es.getD at' 0) (dy.getD o 0) (es.getD o 0))
theorem c_free (k : Nat) (es dy : List Int) (oth : List Nat) (at' : Nat) (day : Int) (h : Ok es) (hd : dy.length = es.length) (ho : ∀ o ∈ oth, o < es.length) (ha : at' < es.length) (hol : oth.length ≤ 1000) :
    callK gls ds (k+3) 12 [.p (wsT es), .r 0, .p (.list (oth.map fun (o : Nat) => .int (o : Int))), .p (.int (at' : Nat)), .p (.int day)] [.lp 0 (dy.map .int)] = .ok (.p (.bool (free es dy oth at' day))) [.lp 0 (dy.map .int)] := by
  rw [callK_at (d := ⟨t_is_free, 5, 6⟩) rfl rfl]
  have vl : (oth.map fun (o : Nat) => Vl.p (PyData.int (o : Int))).length ≤ lim := by simp; unfold lim; omega
  simp [t_is_free, Function.comp_def, cpAll_l vl]
  rw [cpL_map (f := fun v => .bool (match v with | .p (.int x) => mB day (es.getD at' 0) (dy.getD x.toNat 0) (es.getD x.toNat 0) | _ => false))]
  · simp only [List.map_map, Function.comp_def, bd_ok, mkLst_f]
    simp [free, -List.getD_eq_getElem?_getD, -List.any_eq_true, -List.any_eq_false]
  · intro v hv
    obtain ⟨o, ho', rfl⟩ := List.mem_map.mp hv
    have ho := ho o ho'
    have f1 := atD (l := es) ha
    have f2 := atD (l := es) ho
    have f3 := atD (l := dy) (i := o) (by omega)
    have e1 := h.d ha
    have e2 := h.d ho
    have a1 := w_meet k day (es.getD at' 0) (dy.getD o 0) (es.getD o 0) (by omega) (by omega)
    have ix : ixV (.r 0) (.p (.int (o : Int))) [.lp 0 (dy.map .int)] = .ok (.p (.int (dy.getD o 0))) [.lp 0 (dy.map .int)] := by
      rw [ixV_r0, f3]; rfl
    simp [wipeE, f1, f2, ix, a1, -List.getD_eq_getElem?_getD]
theorem w_free (k : Nat) (es dy : List Int) (oth : List Nat) (at' : Nat) (day : Int) (h : Ok es) (hd : dy.length = es.length) (ho : ∀ o ∈ oth, o < es.length) (ha : at' < es.length) (hol : oth.length ≤ 1000) :
    callW (callK gls ds (k+3) 12) false [.p (wsT es), .r 0, .p (.list (oth.map fun (o : Nat) => .int (o : Int))), .p (.int (at' : Nat)), .p (.int day)] [.lp 0 (dy.map .int)] = .ok (.p (.bool (free es dy oth at' day))) [.lp 0 (dy.map .int)] := by
  simp [callW, refs, inArgs, plainOb, c_free k es dy oth at' day h hd ho ha hol, back]
end K69
end
section
set_option linter.all false
set_option maxRecDepth 100000
set_option maxHeartbeats 1000000
namespace K69
open PySem Mi
/-! told_begun: the search -/
theorem whC_step {c : En → Sr → R Bool} {b : En → Sr → X} {e e' : En} {s s' : Sr} (hc : c e s = .ok true s) (hb : b e s = .nx e' s') : whC c b e s = whC c b e' s' := by
  have st : ∀ n, whN c b (n + 1) e s = whN c b n e' s' := fun n => by
    rw [whN, hc]
    dsimp only
    rw [hb]
  by_cases h : ∃ n, whN c b n e' s' ≠ .no
  · obtain ⟨n, hn⟩ := h
    rw [whC_of hn, whC_of (n := n + 1) (by rw [st]; exact hn), st]
  · have h2 : ¬ ∃ n, whN c b n e s ≠ .no := fun ⟨n, hn⟩ => by
      cases n with
      | zero => exact hn rfl
      | succ n => rw [st] at hn; exact h ⟨n, hn⟩
    unfold whC
    rw [dif_neg h, dif_neg h2]
theorem sh_ints {ns : List Int} : sh (.list (ns.map .int)) = true := by
  have := sh_tup (ns := ns)
  unfold sh SeqAt.shaped at *
  simpa [PyData.canLay0, PyData.depth] using this
theorem eq_nil (ns : List Int) : cmpP .Eq (.list (ns.map .int)) (.list []) = some (decide (ns = [])) := by
  have h : cmpP .Eq (.list (ns.map .int)) (.list []) = some (PyData.eqv (.list (ns.map .int)) (.list [])) := by
    show (if (sh _ && sh _) = true then some _ else none) = _
    rw [sh_ints, show sh (.list []) = true from sh_ints (ns := [])]
    rfl
  rw [h]
  cases ns <;> simp [PyData.eqv, PyData.eqvAll]
def oP (ord : List Nat) : P := .list (ord.map fun (o : Nat) => .int (o : Int))
def tB : T := whb (sti t_told_begun 2)
def EB (es : List Int) (ord : List Nat) (spot : Int) (tried : Nat) (x1 x6 x7 : Option Vl) : En := [some (.p (wsT es)), x1, some (.p (oP ord)), some (.r 0), some (.p (.int spot)), some (.p (.int (tried : Nat))), x6, x7, none, none]
def ZB (dy : List Int) : Sr := [.lp 0 (dy.map .int)]
def lastD (es : List Int) (ord : List Nat) (s : Nat) : Int := if 0 < s then es.getD (ord.getD s 0) 0 else 1
def cand (lo hi : Int) : List Int := (List.range (hi - lo).toNat).map fun (j : Nat) => lo + (j : Int)
def fitL (es : List Int) (ord : List Nat) (dy : List Int) (s : Nat) : List Int := (cand (dy.getD (ord.getD s 0) 0 + 1) (lastD es ord s)).filter fun day => free es dy (ord.take s) (ord.getD s 0) day
/-- an order of the casks -/
structure Od (es : List Int) (ord : List Nat) : Prop where
  l : ord.length = es.length
  b : ∀ a, a < es.length → ord.getD a 0 < es.length
  i : ∀ a b, a < es.length → b < es.length → ord.getD a 0 = ord.getD b 0 → a = b
theorem gdN {l : List Nat} {i : Nat} (h : i < l.length) : l.getD i 0 = l[i] := by rw [List.getD_eq_getElem?_getD, List.getElem?_eq_getElem h]; rfl
theorem atO {ord : List Nat} {i : Nat} (h : i < ord.length) : L2.atI (ord.map fun (o : Nat) => PyData.int (o : Int)) (i : Int) = some (.int ((ord.getD i 0 : Nat) : Int)) := by
  rw [at_nat (by simpa using h), gdN h]; simp
theorem map_fm {α β : Type} (p : α → Bool) (g : α → β) : ∀ l : List α, l.filterMap (fun x => if p x = true then some (g x) else none) = (l.filter p).map g
  | [] => rfl
  | x :: r => by
    cases h : p x <;> simp [List.filterMap_cons, List.filter_cons, h, map_fm p g r]
theorem w_fit (k : Nat) (es : List Int) (ord : List Nat) (dy : List Int) (h : Ok es) (od : Od es ord) (hd : dy.length = es.length) (hb : ∀ x ∈ dy, -1 ≤ x ∧ x ≤ 60) (s : Nat) (hs : s < es.length) (tried : Nat) (x7 : Option Vl) :
    (sem gls (callK gls ds (k+3)) (sti tB 4)).s (EB es ord (s : Nat) tried (some (.p (.int (ord.getD s 0 : Nat)))) (some (.p (.int (lastD es ord s)))) x7) (ZB dy) = .nx (EB es ord (s : Nat) tried (some (.p (.int (ord.getD s 0 : Nat)))) (some (.p (.int (lastD es ord s)))) (some (.p (.list ((fitL es ord dy s).map .int))))) (ZB dy) := by
  have hl := h.l
  have ho := od.b s hs
  have hol := od.l
  have f1 : L2.atI (dy.map PyData.int) ((ord.getD s 0 : Nat) : Int) = some (.int (dy.getD (ord.getD s 0) 0)) := atD (by omega)
  have db : -1 ≤ dy.getD (ord.getD s 0) 0 ∧ dy.getD (ord.getD s 0) 0 ≤ 60 := by rw [gd (by omega)]; exact hb _ (List.getElem_mem _)
  have lb : 1 ≤ lastD es ord s ∧ lastD es ord s ≤ 24 := by
    unfold lastD
    split
    · exact h.d ho
    · omega
  have hw := fun (day : Int) => w_free k es dy (ord.take s) (ord.getD s 0) day h hd (fun o ho' => by
    obtain ⟨a, ha, e⟩ := List.getElem_of_mem (List.mem_of_mem_take ho')
    have := od.b a (by omega)
    rw [gdN ha, e] at this
    exact this) ho (by simp; omega)
  have eF : fitL es ord dy s = (cand (dy.getD (ord.getD s 0) 0 + 1) (lastD es ord s)).filter fun day => free es dy (ord.take s) (ord.getD s 0) day := rfl
  have ix : ∀ (m : Nat), m = ord.getD s 0 → ixV (.r 0) (.p (.int (m : Int))) (ZB dy) = .ok (.p (.int (dy.getD m 0))) (ZB dy) := fun m hm => by
    subst hm
    unfold ZB
    rw [ixV_r0, f1]; rfl
  have ix := ix _ rfl
  have sl : slP (oP ord) none (some (s : Int)) = some (oP (ord.take s)) := by simp [slP, oP, cut_take]
  generalize lastD es ord s = L at *
  generalize ord.getD s 0 = at' at *
  generalize dy.getD at' 0 = d0 at *
  have rg : rgP [.int (d0 + 1), .int L] = some ((cand (d0 + 1) L).map .int) := by
    rw [rgP_2 _ _ (by omega) (by omega), rng_eq]
    simp [cand]
  have cl : ((cand (d0 + 1) L).map fun x => Vl.p (PyData.int x)).length ≤ lim := by simp [cand]; unfold lim; omega
  simp [tB, t_told_begun, sti, whb, EB, ix, rg, Function.comp_def, cpAll_l cl]
  rw [cpL_fm (fun v => match v with | .p (.int x) => if free es dy (ord.take s) at' x = true then some (.int x) else none | _ => none)]
  · have e2 : ((cand (d0 + 1) L).map fun x => Vl.p (PyData.int x)).filterMap (fun v => match v with | .p (.int x) => if free es dy (ord.take s) at' x = true then some (PyData.int x) else none | _ => none) = (fitL es ord dy s).map .int := by
      rw [List.filterMap_map, eF, ← map_fm]
      rfl
    rw [e2]
    simp
  · intro v hv
    obtain ⟨day, _, rfl⟩ := List.mem_map.mp hv
    have hw := hw day
    rw [show PyData.list ((ord.take s).map fun (o : Nat) => .int (o : Int)) = oP (ord.take s) from rfl] at hw
    refine ⟨[some (.p (wsT es)), some (.p (.int (at' : Nat))), some (.p (oP ord)), some (.r 0), some (.p (.int (s : Nat))), some (.p (.int (tried : Nat))), some (.p (.int L)), x7, none, some (.p (.int day))], by simp [wipeE], ?_⟩
    cases c : free es dy (ord.take s) at' day with
    | true =>
      rw [c] at hw
      refine .inr ⟨.int day, by simp [c], ?_, by simp⟩
      simp [cnd, sl]
      unfold ZB at *
      simp [hw]
    | false =>
      rw [c] at hw
      refine .inl ⟨by simp [c], ?_⟩
      simp [cnd, sl]
      unfold ZB at *
      simp [hw]
theorem w_step (k : Nat) (es : List Int) (ord : List Nat) (dy : List Int) (h : Ok es) (od : Od es ord) (hd : dy.length = es.length) (hb : ∀ x ∈ dy, -1 ≤ x ∧ x ≤ 60) (s : Nat) (hs : s < es.length) (tried : Nat) (ht : tried < 100000) (x1 x6 x7 : Option Vl) :
    (sem gls (callK gls ds (k+3)) tB).s (EB es ord (s : Nat) tried x1 x6 x7) (ZB dy) = .nx (EB es ord (if fitL es ord dy s = [] then (s : Int) - 1 else (s : Int) + 1) (tried + 1) (some (.p (.int (ord.getD s 0 : Nat)))) (some (.p (.int (lastD es ord s)))) (some (.p (.list ((fitL es ord dy s).map .int))))) (ZB (dy.set (ord.getD s 0) ((fitL es ord dy s).headD (-1)))) := by
  have hl := h.l
  have ho := od.b s hs
  have hol := od.l
  have f0 := atO (ord := ord) (i := s) (by omega)
  have f1 := atD (l := es) ho
  have e0 : tB = .cons (sti tB 0) (.cons (sti tB 1) (.cons (sti tB 2) (.cons (sti tB 3) (.cons (sti tB 4) (.cons (sti tB 5) .nil))))) := rfl
  have b0 : (sem gls (callK gls ds (k+3)) (sti tB 0)).s (EB es ord (s : Nat) tried x1 x6 x7) (ZB dy) = .nx (EB es ord (s : Nat) tried (some (.p (.int (ord.getD s 0 : Nat)))) x6 x7) (ZB dy) := by
    simp [tB, t_told_begun, sti, whb, EB, oP, f0, -List.getD_eq_getElem?_getD]
  have b1 : (sem gls (callK gls ds (k+3)) (sti tB 1)).s (EB es ord (s : Nat) tried (some (.p (.int (ord.getD s 0 : Nat)))) x6 x7) (ZB dy) = .nx (EB es ord (s : Nat) (tried + 1) (some (.p (.int (ord.getD s 0 : Nat)))) x6 x7) (ZB dy) := by
    simp [tB, t_told_begun, sti, whb, EB]
  have b2 : (sem gls (callK gls ds (k+3)) (sti tB 2)).s (EB es ord (s : Nat) (tried + 1) (some (.p (.int (ord.getD s 0 : Nat)))) x6 x7) (ZB dy) = .nx (EB es ord (s : Nat) (tried + 1) (some (.p (.int (ord.getD s 0 : Nat)))) x6 x7) (ZB dy) := by
    have n : ¬ (100000 : Int) < (tried : Int) + 1 := by omega
    simp [tB, t_told_begun, sti, whb, EB, n]
  have b3 : (sem gls (callK gls ds (k+3)) (sti tB 3)).s (EB es ord (s : Nat) (tried + 1) (some (.p (.int (ord.getD s 0 : Nat)))) x6 x7) (ZB dy) = .nx (EB es ord (s : Nat) (tried + 1) (some (.p (.int (ord.getD s 0 : Nat)))) (some (.p (.int (lastD es ord s)))) x7) (ZB dy) := by
    unfold lastD
    by_cases c : 0 < s
    · simp [tB, t_told_begun, sti, whb, EB, c, f1, -List.getD_eq_getElem?_getD]
    · simp [tB, t_told_begun, sti, whb, EB, c]
  have b4 := w_fit k es ord dy h od hd hb s hs (tried + 1) x7
  have en := eq_nil (fitL es ord dy s)
  have b5 : (sem gls (callK gls ds (k+3)) (sti tB 5)).s (EB es ord (s : Nat) (tried + 1) (some (.p (.int (ord.getD s 0 : Nat)))) (some (.p (.int (lastD es ord s)))) (some (.p (.list ((fitL es ord dy s).map .int))))) (ZB dy) = .nx (EB es ord (if fitL es ord dy s = [] then (s : Int) - 1 else (s : Int) + 1) (tried + 1) (some (.p (.int (ord.getD s 0 : Nat)))) (some (.p (.int (lastD es ord s)))) (some (.p (.list ((fitL es ord dy s).map .int))))) (ZB (dy.set (ord.getD s 0) ((fitL es ord dy s).headD (-1)))) := by
    generalize fitL es ord dy s = fl at *
    have si : ∀ x : Int, setIx (.r 0) (.p (.int (ord.getD s 0 : Nat))) (.p (.int x)) (ZB dy) = some (ZB (dy.set (ord.getD s 0) x)) := fun x => by
      unfold ZB
      rw [set_lp (n := 0) (xs := dy.map .int) rfl (j := ord.getD s 0) (by rw [List.length_map]; unfold L2.ixN; rw [if_pos (by omega), if_pos (by omega)]; simp)]
      simp
    cases fl with
    | nil =>
      simp at en
      simp [tB, t_told_begun, sti, whb, EB, en, si, -List.getD_eq_getElem?_getD]
    | cons d r =>
      simp at en
      simp [tB, t_told_begun, sti, whb, EB, en, si, -List.getD_eq_getElem?_getD]
  rw [e0]
  simp only [s_cons_s]
  rw [b0, th_nx, b1, th_nx, b2, th_nx, b3, th_nx, b4, th_nx, b5, th_nx]
  rfl
end K69
end
section
set_option linter.all false
set_option maxRecDepth 100000
set_option maxHeartbeats 1000000
namespace K69
open PySem Mi
/-! told_begun: levels -/
def gv (ord : List Nat) (dy : List Int) (a : Nat) : Int := dy.getD (ord.getD a 0) 0
def lv (es : List Int) (ord : List Nat) (a : Nat) : Int := es.getD (ord.getD a 0) 0
/-- the first s levels are laid -/
def Vd (es : List Int) (ord : List Nat) (dy : List Int) (s : Nat) : Prop := ∀ a, a < s → 0 ≤ gv ord dy a ∧ gv ord dy a < lastD es ord a ∧ ∀ b, b < a → mB (gv ord dy a) (lv es ord a) (gv ord dy b) (lv es ord b) = false
theorem free_iff {es dy : List Int} {ord : List Nat} {s : Nat} {day : Int} (hs : s ≤ ord.length) : free es dy (ord.take s) (ord.getD s 0) day = true ↔ ∀ b, b < s → mB day (lv es ord s) (gv ord dy b) (lv es ord b) = false := by
  unfold free
  rw [Bool.not_eq_true', List.any_eq_false]
  constructor
  · intro h b hb
    have := h (ord.getD b 0) (by
      rw [gdN (by omega)]
      exact List.mem_take_iff_getElem.mpr ⟨b, by omega, rfl⟩)
    exact Bool.eq_false_iff.mpr this
  · intro h o ho
    obtain ⟨b, hb, rfl⟩ := List.mem_take_iff_getElem.mp ho
    have := h b (by omega)
    unfold gv lv at this
    rw [gdN (by omega : b < ord.length)] at this
    rw [show ord.getD s 0 = ord.getD s 0 from rfl]
    exact Bool.eq_false_iff.mp this
theorem gv_set {es dy : List Int} {ord : List Nat} (od : Od es ord) (hd : dy.length = es.length) {s a : Nat} (hs : s < es.length) (ha : a < es.length) (x : Int) : gv ord (dy.set (ord.getD s 0) x) a = if a = s then x else gv ord dy a := by
  unfold gv
  have h1 := od.b a ha
  rw [gd (by rw [List.length_set]; omega), List.getElem_set]
  by_cases q : a = s
  · subst q; simp
  · have : ¬ ord.getD s 0 = ord.getD a 0 := fun c => q (od.i s a hs ha c).symm
    rw [if_neg this, if_neg q, gd (by omega)]
theorem cand_fil (p : Int → Bool) : ∀ (n : Nat) (lo : Int), ((((List.range n).map fun (j : Nat) => lo + (j : Int)).filter p = []) ∧ ∀ x, lo ≤ x → x < lo + n → p x = false) ∨
    ∃ f r, ((List.range n).map fun (j : Nat) => lo + (j : Int)).filter p = f :: r ∧ lo ≤ f ∧ f < lo + n ∧ p f = true ∧ ∀ x, lo ≤ x → x < f → p x = false
  | 0, lo => .inl ⟨rfl, fun x h1 h2 => by omega⟩
  | n + 1, lo => by
    have e : (List.range (n + 1)).map (fun (j : Nat) => lo + (j : Int)) = lo :: (List.range n).map fun (j : Nat) => (lo + 1) + (j : Int) := by
      rw [List.range_succ_eq_map, List.map_cons, List.map_map]
      congr 1
      · simp
      · apply List.map_congr_left
        intro j _
        simp only [Function.comp]
        push_cast
        omega
    rw [e]
    cases c : p lo with
    | true => exact .inr ⟨lo, _, by rw [List.filter_cons, c]; rfl, by omega, by omega, c, fun x h1 h2 => by omega⟩
    | false =>
      rw [List.filter_cons, c]
      have tail : ∀ x, lo ≤ x → x ≠ lo → lo + 1 ≤ x := fun x h1 h2 => by omega
      rcases cand_fil p n (lo + 1) with ⟨h1, h2⟩ | ⟨f, r, h1, h2, h3, h4, h5⟩
      · refine .inl ⟨h1, fun x a1 a2 => ?_⟩
        by_cases q : x = lo
        · subst q; exact c
        · exact h2 x (tail x a1 q) (by omega)
      · refine .inr ⟨f, r, h1, by omega, by omega, h4, fun x a1 a2 => ?_⟩
        by_cases q : x = lo
        · subst q; exact c
        · exact h5 x (tail x a1 q) a2
theorem fit_cases {es dy : List Int} {ord : List Nat} {s : Nat} (h : -1 ≤ gv ord dy s) (h2 : gv ord dy s < lastD es ord s) :
    (fitL es ord dy s = [] ∧ ∀ x, gv ord dy s < x → x < lastD es ord s → free es dy (ord.take s) (ord.getD s 0) x = false) ∨
    ∃ f r, fitL es ord dy s = f :: r ∧ gv ord dy s < f ∧ f < lastD es ord s ∧ free es dy (ord.take s) (ord.getD s 0) f = true ∧ ∀ x, gv ord dy s < x → x < f → free es dy (ord.take s) (ord.getD s 0) x = false := by
  unfold fitL cand
  have e : dy.getD (ord.getD s 0) 0 = gv ord dy s := rfl
  rw [e]
  generalize gv ord dy s = d at *
  generalize lastD es ord s = L at *
  have ew : ((L - (d + 1)).toNat : Int) = L - (d + 1) := by omega
  rcases cand_fil (fun day => free es dy (ord.take s) (ord.getD s 0) day) (L - (d + 1)).toNat (d + 1) with ⟨h1, h2⟩ | ⟨f, r, h1, h2, h3, h4, h5⟩
  · exact .inl ⟨h1, fun x a1 a2 => h2 x (by omega) (by omega)⟩
  · exact .inr ⟨f, r, h1, by omega, by omega, h4, fun x a1 a2 => h5 x (by omega) a2⟩
def bnd : Nat → Nat
  | 0 => 0
  | m + 1 => 16 * (1 + bnd m) + 1
/-- the walk from a state -/
noncomputable def Wk (k : Nat) (es : List Int) (ord : List Nat) (spot : Int) (tried : Nat) (dy : List Int) (x1 x6 x7 : Option Vl) : X :=
  (sem gls (callK gls ds (k+3)) (sti t_told_begun 2)).s (EB es ord spot tried x1 x6 x7) (ZB dy)
structure Ld (es : List Int) (ord : List Nat) (dy : List Int) : Prop where
  d : dy.length = es.length
  b : ∀ x ∈ dy, -1 ≤ x ∧ x ≤ 60
theorem Wk_step (k : Nat) (es : List Int) (ord : List Nat) (dy : List Int) (h : Ok es) (od : Od es ord) (hd : Ld es ord dy) (s : Nat) (hs : s < es.length) (tried : Nat) (ht : tried < 100000) (x1 x6 x7 : Option Vl) :
    ∃ y1 y6 y7, Wk k es ord (s : Nat) tried dy x1 x6 x7 = Wk k es ord (if fitL es ord dy s = [] then (s : Int) - 1 else (s : Int) + 1) (tried + 1) (dy.set (ord.getD s 0) ((fitL es ord dy s).headD (-1))) y1 y6 y7 := by
  refine ⟨some (.p (.int (ord.getD s 0 : Nat))), some (.p (.int (lastD es ord s))), some (.p (.list ((fitL es ord dy s).map .int))), ?_⟩
  have w := w_step k es ord dy h od hd.d hd.b s hs tried ht x1 x6 x7
  have e4 : (sem gls (callK gls ds (k+3)) (sti t_told_begun 2)).s = whC (fun e s => tst ((sem gls (callK gls ds (k+3)) (whc (sti t_told_begun 2))).e e s)) (sem gls (callK gls ds (k+3)) tB).s := rfl
  unfold Wk
  rw [e4]
  refine whC_step ?_ w
  have hl := h.l
  have hol := od.l
  have h1 : (s : Int) < (ord.length : Int) := by omega
  simp [t_told_begun, sti, whc, EB, oP, h1]
theorem Wk_out (k : Nat) (es : List Int) (ord : List Nat) (dy : List Int) (od : Od es ord) (spot : Int) (hs : spot < 0 ∨ spot = es.length) (tried : Nat) (x1 x6 x7 : Option Vl) :
    Wk k es ord spot tried dy x1 x6 x7 = .nx (EB es ord spot tried x1 x6 x7) (ZB dy) := by
  unfold Wk
  have e4 : (sem gls (callK gls ds (k+3)) (sti t_told_begun 2)).s = whC (fun e s => tst ((sem gls (callK gls ds (k+3)) (whc (sti t_told_begun 2))).e e s)) (sem gls (callK gls ds (k+3)) tB).s := rfl
  rw [e4]
  have hol := od.l
  have hc : (fun e s => tst ((sem gls (callK gls ds (k+3)) (whc (sti t_told_begun 2))).e e s)) (EB es ord spot tried x1 x6 x7) (ZB dy) = .ok false (ZB dy) := by
    by_cases q : spot < 0
    · have h1 : ¬ (0 : Int) ≤ spot := by omega
      simp [t_told_begun, sti, whc, EB, oP, h1]
    · have h0 : (0 : Int) ≤ spot := by omega
      have h1 : ¬ spot < (ord.length : Int) := by omega
      simp [t_told_begun, sti, whc, EB, oP, h1, h0]
  have L := whC_run (c := fun e s => tst ((sem gls (callK gls ds (k+3)) (whc (sti t_told_begun 2))).e e s)) (b := (sem gls (callK gls ds (k+3)) tB).s) (fun _ : Unit => EB es ord spot tried x1 x6 x7) (fun _ => ZB dy) (fun _ => false) id (fun _ => True) (fun _ => 0) (fun _ _ => hc) (fun _ _ h => by cases h) () trivial
  obtain ⟨_, h1, _⟩ := L
  exact h1
/-- what a level comes to -/
def Out (k : Nat) (es : List Int) (ord : List Nat) (s : Nat) (w : X) (dy : List Int) (most : Nat) (no : Prop) : Prop :=
  (∃ tried' dy' y1 y6 y7, w = Wk k es ord es.length tried' dy' y1 y6 y7 ∧ Ld es ord dy' ∧ Vd es ord dy' es.length) ∨
  (∃ tried' y1 y6 y7, w = Wk k es ord ((s : Int) - 1) tried' dy y1 y6 y7 ∧ tried' ≤ most ∧ no)
theorem Vd_congr {es : List Int} {ord : List Nat} {dy dy' : List Int} {s : Nat} (h : ∀ a, a < s → gv ord dy' a = gv ord dy a) (v : Vd es ord dy s) : Vd es ord dy' s := fun a ha => by
  obtain ⟨h1, h2, h3⟩ := v a ha
  rw [h a ha]
  exact ⟨h1, h2, fun b hb => by rw [h b (by omega)]; exact h3 b hb⟩
theorem Ld.set {es : List Int} {ord : List Nat} {dy : List Int} (h : Ld es ord dy) (i : Nat) {x : Int} (hx : -1 ≤ x ∧ x ≤ 60) : Ld es ord (dy.set i x) :=
  ⟨by rw [List.length_set]; exact h.d, fun y hy => by
    rcases List.mem_or_eq_of_mem_set hy with h1 | h1
    · exact h.b y h1
    · rw [h1]; exact hx⟩
def NoX (es : List Int) (ord : List Nat) (dy : List Int) (s : Nat) (d : Int) : Prop := ∀ dz : List Int, dz.length = es.length → (∀ a, a < s → gv ord dz a = gv ord dy a) → d < gv ord dz s → ¬ Vd es ord dz es.length
theorem level_in (k : Nat) (es : List Int) (ord : List Nat) (h : Ok es) (hb16 : ∀ e ∈ es, e ≤ 16) (od : Od es ord) (s m : Nat) (hs : s < es.length)
    (IH : ∀ (dy : List Int) (tried : Nat) (x1 x6 x7 : Option Vl), Ld es ord dy → Vd es ord dy (s + 1) → (∀ a, s + 1 ≤ a → a < es.length → gv ord dy a = -1) → tried + bnd m ≤ 100000 →
      Out k es ord (s + 1) (Wk k es ord ((s + 1 : Nat) : Int) tried dy x1 x6 x7) dy (tried + bnd m) (∀ dz : List Int, dz.length = es.length → (∀ a, a < s + 1 → gv ord dz a = gv ord dy a) → ¬ Vd es ord dz es.length)) :
    ∀ (r : Nat) (dy : List Int) (tried : Nat) (x1 x6 x7 : Option Vl), Ld es ord dy → Vd es ord dy s → (∀ a, s < a → a < es.length → gv ord dy a = -1) → -1 ≤ gv ord dy s → gv ord dy s + 1 + r = lastD es ord s → tried + (r * (1 + bnd m) + 1) ≤ 100000 →
      Out k es ord s (Wk k es ord (s : Int) tried dy x1 x6 x7) (dy.set (ord.getD s 0) (-1)) (tried + (r * (1 + bnd m) + 1)) (NoX es ord dy s (gv ord dy s)) := by
  intro r
  induction r using Nat.strongRecOn with
  | ind r ih =>
    intro dy tried x1 x6 x7 ld vd hz hg hr ht
    have hol := od.l
    have ho := od.b s hs
    have lb : 1 ≤ lastD es ord s ∧ lastD es ord s ≤ 24 := by
      unfold lastD
      split
      · exact h.d ho
      · omega
    obtain ⟨y1, y6, y7, hw⟩ := Wk_step k es ord dy h od ld s hs tried (by omega) x1 x6 x7
    rcases fit_cases (es := es) (dy := dy) (ord := ord) (s := s) hg (by omega) with ⟨c1, c2⟩ | ⟨f, rr, c1, c2, c3, c4, c5⟩
    · rw [c1, if_pos rfl] at hw
      refine .inr ⟨tried + 1, y1, y6, y7, hw, by omega, fun dz dl da dg vz => ?_⟩
      obtain ⟨v1, v2, v3⟩ := vz s hs
      have := c2 (gv ord dz s) dg v2
      have q : free es dy (ord.take s) (ord.getD s 0) (gv ord dz s) = true := (free_iff (by omega)).mpr fun b hb => by
        rw [← da b hb]; exact v3 b hb
      rw [this] at q; cases q
    · rw [c1, if_neg (by simp)] at hw
      have hw : Wk k es ord (s : Int) tried dy x1 x6 x7 = Wk k es ord ((s + 1 : Nat) : Int) (tried + 1) (dy.set (ord.getD s 0) f) y1 y6 y7 := hw
      have gs := fun a ha => gv_set (es := es) (dy := dy) (ord := ord) od ld.d (s := s) (a := a) hs ha f
      have ld' : Ld es ord (dy.set (ord.getD s 0) f) := ld.set _ (by omega)
      have ga : ∀ a, a < s → gv ord (dy.set (ord.getD s 0) f) a = gv ord dy a := fun a ha => by
        rw [gs a (by omega), if_neg (by omega)]
      have gss : gv ord (dy.set (ord.getD s 0) f) s = f := by rw [gs s hs, if_pos rfl]
      have vd' : Vd es ord (dy.set (ord.getD s 0) f) (s + 1) := fun a ha => by
        by_cases q : a = s
        · subst q
          rw [gss]
          refine ⟨by omega, c3, fun b hb => ?_⟩
          rw [ga b hb]
          exact (free_iff (by omega)).mp c4 b hb
        · exact Vd_congr ga vd a (by omega)
      have hz' : ∀ a, s + 1 ≤ a → a < es.length → gv ord (dy.set (ord.getD s 0) f) a = -1 := fun a h1 h2 => by
        rw [gs a h2, if_neg (by omega)]
        exact hz a (by omega) h2
      have hr0 : 1 ≤ r := by omega
      have hrm : r * (1 + bnd m) = (r - 1) * (1 + bnd m) + (1 + bnd m) := by
        have : r = (r - 1) + 1 := by omega
        conv => lhs; rw [this]
        rw [Nat.add_mul, Nat.one_mul]
      rcases IH (dy.set (ord.getD s 0) f) (tried + 1) y1 y6 y7 ld' vd' hz' (by omega) with ⟨t', dy', z1, z6, z7, q1, q2, q3⟩ | ⟨t', z1, z6, z7, q1, q2, q3⟩
      · exact .inl ⟨t', dy', z1, z6, z7, hw.trans q1, q2, q3⟩
      · have e1 : ((s + 1 : Nat) : Int) - 1 = (s : Int) := by omega
        rw [e1] at q1
        obtain ⟨r', hr'⟩ : ∃ r' : Nat, f + 1 + (r' : Int) = lastD es ord s := ⟨(lastD es ord s - f - 1).toNat, by omega⟩
        have hrr : r' ≤ r - 1 := by omega
        have hmm : r' * (1 + bnd m) ≤ (r - 1) * (1 + bnd m) := Nat.mul_le_mul_right _ hrr
        have ih' := ih r' (by omega) (dy.set (ord.getD s 0) f) t' z1 z6 z7 ld' (Vd_congr ga vd) (fun a h1 h2 => hz' a (by omega) h2) (by rw [gss]; omega) (by rw [gss]; exact hr') (by omega)
        rw [List.set_set, gss] at ih'
        rcases ih' with ⟨t2, dy', u1, u6, u7, p1, p2, p3⟩ | ⟨t2, u1, u6, u7, p1, p2, p3⟩
        · exact .inl ⟨t2, dy', u1, u6, u7, (hw.trans q1).trans p1, p2, p3⟩
        · refine .inr ⟨t2, u1, u6, u7, (hw.trans q1).trans p1, by omega, fun dz dl da dg vz => ?_⟩
          by_cases a1 : gv ord dz s < f
          · obtain ⟨v1, v2, v3⟩ := vz s hs
            have := c5 (gv ord dz s) dg a1
            have q : free es dy (ord.take s) (ord.getD s 0) (gv ord dz s) = true := (free_iff (by omega)).mpr fun b hb => by
              rw [← da b hb]; exact v3 b hb
            rw [this] at q; cases q
          · by_cases a2 : gv ord dz s = f
            · refine q3 dz dl (fun a ha => ?_) vz
              by_cases q : a = s
              · subst q; rw [gss, a2]
              · rw [ga a (by omega)]; exact da a (by omega)
            · exact p3 dz dl (fun a ha => by rw [ga a ha]; exact da a ha) (by omega) vz
theorem level (k : Nat) (es : List Int) (ord : List Nat) (h : Ok es) (hb16 : ∀ e ∈ es, e ≤ 16) (od : Od es ord) : ∀ (m s : Nat), s + m = es.length → 1 ≤ s → ∀ (dy : List Int) (tried : Nat) (x1 x6 x7 : Option Vl), Ld es ord dy → Vd es ord dy s → (∀ a, s ≤ a → a < es.length → gv ord dy a = -1) → tried + bnd m ≤ 100000 →
      Out k es ord s (Wk k es ord (s : Int) tried dy x1 x6 x7) dy (tried + bnd m) (∀ dz : List Int, dz.length = es.length → (∀ a, a < s → gv ord dz a = gv ord dy a) → ¬ Vd es ord dz es.length)
  | 0, s, hm, h1, dy, tried, x1, x6, x7, ld, vd, hz, ht => by
    have : s = es.length := by omega
    subst this
    exact .inl ⟨tried, dy, x1, x6, x7, rfl, ld, vd⟩
  | m + 1, s, hm, h1, dy, tried, x1, x6, x7, ld, vd, hz, ht => by
    have hs : s < es.length := by omega
    have ho := od.b s hs
    have g1 : gv ord dy s = -1 := hz s (by omega) hs
    have lb : 1 ≤ lastD es ord s ∧ lastD es ord s ≤ 16 := by
      unfold lastD
      rw [if_pos (by omega)]
      have := h.d ho
      refine ⟨this.1, ?_⟩
      rw [gd ho]
      exact hb16 _ (List.getElem_mem _)
    obtain ⟨r, hr⟩ : ∃ r : Nat, (r : Int) = lastD es ord s := ⟨(lastD es ord s).toNat, by omega⟩
    have hrm : r * (1 + bnd m) ≤ 16 * (1 + bnd m) := Nat.mul_le_mul_right _ (by omega)
    have eb : bnd (m + 1) = 16 * (1 + bnd m) + 1 := rfl
    have q := level_in k es ord h hb16 od s m hs (fun dy tried x1 x6 x7 a b c d => level k es ord h hb16 od m (s + 1) (by omega) (by omega) dy tried x1 x6 x7 a b c d) r dy tried x1 x6 x7 ld vd (fun a h2 h3 => hz a (by omega) h3) (by omega) (by omega) (by omega)
    have sets : dy.set (ord.getD s 0) (-1) = dy := by
      apply List.ext_getElem (by simp)
      intro i h2 h3
      rw [List.getElem_set]
      by_cases e : ord.getD s 0 = i
      · rw [if_pos e]
        subst e
        rw [← gd h3]
        exact g1.symm
      · rw [if_neg e]
    rw [sets] at q
    rcases q with ⟨t', dy', z1, z6, z7, q1, q2, q3⟩ | ⟨t', z1, z6, z7, q1, q2, q3⟩
    · exact .inl ⟨t', dy', z1, z6, z7, q1, q2, q3⟩
    · refine .inr ⟨t', z1, z6, z7, q1, by omega, fun dz dl da vz => q3 dz dl da ?_ vz⟩
      have := (vz s hs).1
      omega
end K69
end
section
set_option linter.all false
set_option maxRecDepth 100000
set_option maxHeartbeats 1000000
namespace K69
open PySem Mi
/-- the order told_begun takes -/
def ordS (es : List Int) : List PI2 := ((es.zipIdx).map fun q => (q.1, (q.2 : Int))).mergeSort le2
def ordN (es : List Int) : List Nat := (ordS es).map fun q => q.2.toNat
theorem ordN_perm (es : List Int) : (ordN es).Perm (List.range es.length) := by
  unfold ordN ordS
  refine ((List.mergeSort_perm _ _).map _).trans ?_
  rw [List.map_map]
  have : (es.zipIdx.map ((fun q : PI2 => q.2.toNat) ∘ fun q => (q.1, (q.2 : Int)))) = List.range es.length := by
    apply List.ext_getElem (by simp)
    intro i h1 h2
    simp
  rw [this]
theorem od_ordN (es : List Int) : Od es (ordN es) := by
  have p := ordN_perm es
  have hl : (ordN es).length = es.length := by rw [p.length_eq, List.length_range]
  refine ⟨hl, fun a ha => ?_, fun a b ha hb e => ?_⟩
  · rw [gdN (by omega)]
    exact List.mem_range.mp (p.mem_iff.mp (List.getElem_mem _))
  · rw [gdN (by omega), gdN (by omega)] at e
    have nd : (ordN es).Nodup := p.nodup_iff.mpr List.nodup_range
    exact (List.getElem_inj nd).mp e
theorem en_zip (l : List Int) : enumP 0 (l.map PyData.int) = (l.zipIdx).map fun q => Vl.p (PyData.tuple [.int (q.2 : Int), .int q.1]) := by
  have gen : ∀ (l : List Int) (n : Nat), enumP n (l.map PyData.int) = (l.zipIdx n).map fun q => Vl.p (PyData.tuple [.int (q.2 : Int), .int q.1]) := by
    intro l
    induction l with
    | nil => intro n; rfl
    | cons x r ih => intro n; simp [enumP, List.zipIdx_cons, ih]
  exact gen l 0
theorem ordS_mem (es : List Int) : ∀ q ∈ ordS es, 0 ≤ q.2 := by
  intro q hq
  unfold ordS at hq
  have := (List.mergeSort_perm _ _).mem_iff.mp hq
  obtain ⟨a, _, rfl⟩ := List.mem_map.mp this
  simp
theorem oP_eq (es : List Int) : PyData.list ((ordS es).map fun q => .int q.2) = oP (ordN es) := by
  unfold oP ordN
  rw [List.map_map]
  congr 1
  apply List.map_congr_left
  intro q hq
  have := ordS_mem es q hq
  simp only [Function.comp]
  congr 1
  omega
theorem ex_Vd {es : List Int} {ord : List Nat} (h : Ok es) (od : Od es ord) (g : Ex es) : ∃ dz : List Int, dz.length = es.length ∧ Vd es ord dz es.length := by
  obtain ⟨ps, e, g⟩ := g
  have hl : ps.length = es.length := by rw [← e, List.length_map]
  have hle := h.l
  have h0 := od.b 0 (by omega)
  have gm := g.mv (-(ps.getD (ord.getD 0 0) (0, 0)).1)
  have em : (ps.map (mv (-(ps.getD (ord.getD 0 0) (0, 0)).1))).map (·.2) = es := by rw [← e, List.map_map]; rfl
  have g0 : ((ps.map (mv (-(ps.getD (ord.getD 0 0) (0, 0)).1))).map (·.1)).getD (ord.getD 0 0) 0 = 0 := by
    rw [gd (by simp only [List.length_map]; omega)]
    rw [List.getElem_map, List.getElem_map, List.getD_eq_getElem?_getD, List.getElem?_eq_getElem (by omega)]
    simp only [Option.getD_some, mv]
    rw [show ∀ a : Int, a + -a = 0 by omega]
    simp
  generalize ps.map (mv (-(ps.getD (ord.getD 0 0) (0, 0)).1)) = qs at *
  have ql : qs.length = es.length := by rw [← em, List.length_map]
  refine ⟨qs.map (·.1), by rw [List.length_map, ql], fun a ha => ?_⟩
  have ob := od.b a ha
  have e1 : ∀ i, i < es.length → ∃ q, q ∈ qs ∧ qs[i]? = some q ∧ (qs.map (·.1)).getD i 0 = q.1 ∧ es.getD i 0 = q.2 := fun i hi => by
    refine ⟨qs[i], List.getElem_mem _, List.getElem?_eq_getElem (by omega), ?_, ?_⟩
    · rw [gd (by simp only [List.length_map]; omega), List.getElem_map]
    · rw [gd hi]; simp only [← em, List.getElem_map]
  obtain ⟨q, q1, q2, q3, q4⟩ := e1 _ ob
  have gq := gm.1 q q1
  refine ⟨by unfold gv; rw [q3]; exact gq.1, ?_, fun b hb => ?_⟩
  · unfold gv lastD
    split
    · rw [q3, q4]; exact gq.2
    · have : a = 0 := by omega
      subst this
      rw [g0]; omega
  · have ob2 := od.b b (by omega)
    obtain ⟨r, r1, r2, r3, r4⟩ := e1 _ ob2
    unfold gv lv
    rw [q3, q4, r3, r4, Bool.eq_false_iff]
    intro c
    have c := mB_iff.mp c
    have ne : ord.getD a 0 ≠ ord.getD b 0 := fun c2 => by have := od.i a b ha (by omega) c2; omega
    have pw := List.pairwise_iff_getElem.mp gm.2
    have hq2 := List.getElem?_eq_some_iff.mp q2
    have hr2 := List.getElem?_eq_some_iff.mp r2
    obtain ⟨u1, u2⟩ := hq2
    obtain ⟨w1, w2⟩ := hr2
    rcases Nat.lt_or_gt_of_ne ne with lt | lt
    · have := pw _ _ u1 w1 lt
      rw [u2, w2] at this
      exact this c
    · have := pw _ _ w1 u1 lt
      rw [u2, w2] at this
      exact this (M_symm c)
theorem Vd_bg {es : List Int} {ord : List Nat} {dy : List Int} (h : Ok es) (od : Od es ord) (p : ord.Perm (List.range es.length)) (hd : dy.length = es.length) (v : Vd es ord dy es.length) : Bg es dy ∧ Apart es dy := by
  have sur : ∀ i, i < es.length → ∃ a, a < es.length ∧ ord.getD a 0 = i := fun i hi => by
    have hm := p.mem_iff.mpr (List.mem_range.mpr hi)
    obtain ⟨a, ha, e⟩ := List.getElem_of_mem hm
    have := od.l
    exact ⟨a, by omega, by rw [gdN ha]; exact e⟩
  refine ⟨⟨hd, fun q hq => ?_⟩, (apart_ix hd).mpr fun i j hi hj => ?_⟩
  · obtain ⟨i, hi, rfl⟩ := List.getElem_of_mem hq
    rw [List.getElem_zip]
    have hi2 : i < es.length := by rw [List.length_zip] at hi; omega
    obtain ⟨a, ha, e⟩ := sur i hi2
    obtain ⟨v1, v2, _⟩ := v a ha
    unfold gv at v1 v2
    unfold lastD at v2
    rw [e] at v1 v2
    rw [gd (by omega)] at v1 v2
    rw [gd hi2] at v2
    have := h.b es[i] (List.getElem_mem _)
    refine ⟨v1, ?_⟩
    simp only
    split at v2
    · exact v2
    · omega
  · obtain ⟨a, ha, e⟩ := sur i hi
    obtain ⟨b, hb, e2⟩ := sur j (by omega)
    have ne : a ≠ b := fun c => by subst c; omega
    unfold nx
    rcases Nat.lt_or_gt_of_ne ne with lt | lt
    · have := (v b hb).2.2 a lt
      unfold gv lv at this
      rw [e, e2] at this
      rw [Bool.eq_false_iff] at this ⊢
      exact fun c => this (mB_iff.mpr (M_symm (mB_iff.mp c)))
    · have := (v a ha).2.2 b lt
      unfold gv lv at this
      rw [e, e2] at this
      exact this
theorem c_tbegun (k : Nat) (es : List Int) (h : Ok es) (h5 : es.length ≤ 5) (h16 : ∀ e ∈ es, e ≤ 16) : ∃ v, ((∃ bs, v = wsT bs ∧ Bg es bs ∧ Apart es bs) ∨ v = .none ∧ ¬ Ex es) ∧ ∃ st', callK gls ds (k+4) 11 [.p (wsT es)] [] = .ok (.p v) st' := by
  rw [callK_at (d := ⟨t_told_begun, 1, 10⟩) rfl rfl]
  generalize hr : endX _ = r
  have hl := h.l
  have od := od_ordN es
  have op := ordN_perm es
  have es0 : ([Vl.p (wsT es)].map some ++ List.replicate (10 - 1) none) = [some (.p (wsT es)), none, none, none, none, none, none, none, none, none] := rfl
  have e0 : t_told_begun = .cons (sti t_told_begun 0) (.cons (sti t_told_begun 1) (.cons (sti t_told_begun 2) (.cons (sti t_told_begun 3) .nil))) := rfl
  have b0 : (sem gls (callK gls ds (k+3)) (sti t_told_begun 0)).s [some (.p (wsT es)), none, none, none, none, none, none, none, none, none] [] = .nx [some (.p (wsT es)), none, some (.p (oP (ordN es))), none, none, none, none, none, none, none] [] := by
    have so : biP .sorted [.list (es.zipIdx.map (pr ∘ fun q : Int × Nat => (q.1, (q.2 : Int))))] = some (.list ((ordS es).map pr)) := by
      rw [← List.map_map]
      exact bi_sort2 _
    have ol : ((ordS es).map (Vl.p ∘ pr)).length ≤ lim := by
      unfold ordS; simp; unfold lim; omega
    have zl : ((es.zipIdx).map fun q => Vl.p (PyData.tuple [.int (q.2 : Int), .int q.1])).length ≤ lim := by simp; unfold lim; omega
    simp [t_told_begun, sti, wsT, en_zip, cpAll_l zl]
    rw [cpL_map (f := fun v => match v with | .p (.tuple [.int x, .int y]) => .tuple [.int y, .int x] | _ => .none)]
    · simp only [List.map_map, Function.comp_def, bd_ok, mkLst_f]
      have em : (es.zipIdx.map fun q => PyData.tuple [.int q.1, .int (q.2 : Int)]) = (es.zipIdx.map fun q => (q.1, (q.2 : Int))).map pr := by rw [List.map_map]; rfl
      rw [em]
      simp [so, cpAll_l ol]
      rw [cpL_map (f := fun v => match v with | .p (.tuple [.int x, .int y]) => .int y | _ => .none)]
      · simp only [List.map_map, Function.comp_def, bd_ok, mkLst_f, pr]
        rw [← oP_eq]
        simp [cnt]
      · intro v hv
        obtain ⟨q, hq, rfl⟩ := List.mem_map.mp hv
        simp [wipeE, cnt, pr]
    · intro v hv
      obtain ⟨q, hq, rfl⟩ := List.mem_map.mp hv
      simp [wipeE, cnt]
  have b1 : (sem gls (callK gls ds (k+3)) (sti t_told_begun 1)).s [some (.p (wsT es)), none, some (.p (oP (ordN es))), none, none, none, none, none, none, none] [] = .nx (EB es (ordN es) (0 : Nat) 0 none none none) (ZB (List.replicate es.length (-1))) := by
    have q : rpmV (.p (.list [.int (-1)])) (.p (.int (es.length : Int))) [] = .ok (.r 0) (ZB (List.replicate es.length (-1))) := by
      unfold rpmV ZB
      have h1 : (0:Int) ≤ (es.length : Int) := by omega
      have h2 : ((es.length : Int)) ≤ lim := by unfold lim; omega
      have h3 : es.length ≤ lim := by unfold lim; omega
      simp [dd, rep, h2, h3, mkLst, List.flatten_replicate_singleton]
    have q0 : mkLstV false [.p (.int (-1))] [] = .ok (.p (.list [.int (-1)])) [] := mkLstV_ps (xs := [.int (-1)]) (by decide)
    simp [t_told_begun, sti, q, q0, EB]
  have ld0 : Ld es (ordN es) (List.replicate es.length (-1)) := ⟨by simp, fun x hx => by rw [List.eq_of_mem_replicate hx]; omega⟩
  have g0 : ∀ a, a < es.length → gv (ordN es) (List.replicate es.length (-1)) a = -1 := fun a ha => by
    unfold gv
    have := od.b a ha
    rw [gd (by simpa using this)]
    simp
  have bm : bnd 4 = 74273 := by decide +kernel
  have bmono : ∀ m, m ≤ 4 → bnd m ≤ 74273 := fun m hm => by
    have h1 : bnd 1 = 17 := by decide +kernel
    have h2 : bnd 2 = 289 := by decide +kernel
    have h3 : bnd 3 = 4641 := by decide +kernel
    have h0 : bnd 0 = 0 := rfl
    have : m = 0 ∨ m = 1 ∨ m = 2 ∨ m = 3 ∨ m = 4 := by omega
    rcases this with rfl | rfl | rfl | rfl | rfl <;> omega
  have l0 : lastD es (ordN es) 0 = 1 := by unfold lastD; simp
  have bb := bmono (es.length - 1) (by omega)
  have w := level_in k es (ordN es) h h16 od 0 (es.length - 1) (by omega) (fun dy tried x1 x6 x7 a b c d => level k es (ordN es) h h16 od (es.length - 1) (0 + 1) (by omega) (by omega) dy tried x1 x6 x7 a b c d) 1 (List.replicate es.length (-1)) 0 none none none ld0 (fun a ha => absurd ha (Nat.not_lt_zero a)) (fun a _ ha => g0 a ha) (by rw [g0 0 (by omega)]; omega) (by rw [g0 0 (by omega), l0]; rfl) (by omega)
  simp only [es0] at hr
  rw [e0] at hr
  simp only [s_cons_s] at hr
  rw [b0, th_nx, b1, th_nx] at hr
  have hr : endX ((Wk k es (ordN es) (0 : Nat) 0 (List.replicate es.length (-1)) none none none).th fun e s => (sem gls (callK gls ds (k+3)) (.cons (sti t_told_begun 3) .nil)).s e s) = r := hr
  rcases w with ⟨t', dy', z1, z6, z7, q1, q2, q3⟩ | ⟨t', z1, z6, z7, q1, q2, q3⟩
  · rw [q1, Wk_out k es (ordN es) dy' od _ (.inr rfl), th_nx] at hr
    have n0 : ¬ (es.length : Int) < 0 := by omega
    simp [t_told_begun, sti, EB, ZB, n0, dd] at hr
    obtain ⟨u1, u2⟩ := Vd_bg h od op q2.d q3
    exact ⟨wsT dy', .inl ⟨dy', rfl, u1, u2⟩, _, hr.symm⟩
  · rw [q1, Wk_out k es (ordN es) _ od _ (.inl (by omega)), th_nx] at hr
    simp [t_told_begun, sti, EB, ZB, dd] at hr
    refine ⟨.none, .inr ⟨rfl, fun g => ?_⟩, _, hr.symm⟩
    obtain ⟨dz, d1, d2⟩ := ex_Vd h od g
    refine q3 dz d1 (fun a ha => absurd ha (Nat.not_lt_zero a)) ?_ d2
    rw [g0 0 (by omega)]
    have := (d2 0 (by omega)).1
    omega
end K69
end
section
set_option linter.all false
set_option maxRecDepth 100000
set_option maxHeartbeats 1000000
namespace K69
open PySem Mi
section
variable {tg : Vl → En → Sr → X} {cond : En → Sr → R Bool} {elt : En → Sr → R Vl} {e : En} {s : Sr}
theorem cpR_fgo (g : P → Option P) {n z : Nat} {xs : List P} (hx : s[n]? = some (.lp z xs)) (h : ∀ x ∈ xs, ∃ e', tg (.p x) e s = .nx e' s ∧ ((g x = none ∧ cond e' s = .ok false s) ∨ ∃ y, g x = some y ∧ cond e' s = .ok true s ∧ elt e' s = .ok (.p y) s)) : ∀ (fuel i : Nat), xs.length < fuel + i →
    cpR tg cond elt n e fuel i s = .ok ((xs.drop i).filterMap g) s ∨ fuel = 0
  | 0, i, _ => .inr rfl
  | fuel + 1, i, hf => by
    refine .inl ?_
    unfold cpR
    simp only [hx]
    by_cases hi : i < xs.length
    · have e1 : xs[i]? = some xs[i] := List.getElem?_eq_getElem hi
      rcases cpR_fgo g hx h fuel (i + 1) (by omega) with ih | rfl
      · obtain ⟨e', h1, ⟨h2, h3⟩ | ⟨y, h2, h3, h4⟩⟩ := h xs[i] (List.getElem_mem hi)
        · simp only [e1, h1, h3, ih]
          rw [List.drop_eq_getElem_cons hi, List.filterMap_cons, h2]
        · simp only [e1, h1, h3, h4, toP_p, ih]
          rw [List.drop_eq_getElem_cons hi, List.filterMap_cons, h2]
      · omega
    · have e1 : xs[i]? = none := List.getElem?_eq_none (by omega)
      simp only [e1]
      rw [List.drop_of_length_le (by omega)]
      rfl
theorem cpR_fm (g : P → Option P) {n z : Nat} {xs : List P} (hx : s[n]? = some (.lp z xs)) (hl : xs.length < bigN) (h : ∀ x ∈ xs, ∃ e', tg (.p x) e s = .nx e' s ∧ ((g x = none ∧ cond e' s = .ok false s) ∨ ∃ y, g x = some y ∧ cond e' s = .ok true s ∧ elt e' s = .ok (.p y) s)) :
    cpR tg cond elt n e bigN 0 s = .ok (xs.filterMap g) s := by
  rcases cpR_fgo g hx h bigN 0 (by omega) with h | h
  · simpa using h
  · cases h
end
/-! told_lot -/
def lF : T := sti t_told_lot 0
def lF2 : T := sti (fob lF) 1
def shd (es : List Int) (i : Nat) : List Int := es.map fun x => cm (es.getD i 0) x
def fits (number : Int) (es : List Int) (i : Nat) (l : List Int) : Bool := l.all fun o => decide (number % (shd es i).getD o.toNat 0 = 0)
def unI : P → Int
  | .int z => z
  | _ => 0
theorem unI_map (l : List Int) : (l.map PyData.int).map unI = l := by
  rw [List.map_map]
  exact List.map_id l
def lotG (number : Int) (es : List Int) (i : Nat) : P → Option P
  | .tuple xs => if fits number es i (xs.map unI) = true then some (.tuple (xs ++ [.int (i : Int)])) else none
  | _ => none
theorem lotG_w (number : Int) (es : List Int) (i : Nat) (l : List Int) : lotG number es i (wsT l) = if fits number es i l = true then some (wsT (l ++ [(i : Int)])) else none := by
  unfold lotG wsT
  simp only [unI_map, List.map_append, List.map_cons, List.map_nil]
def fitV (number : Nat) (es : List Int) (i : Nat) : Vl → P
  | .p (.int o) => .bool (decide ((number : Int) % (shd es i).getD o.toNat 0 = 0))
  | _ => .none
theorem shd_pos {es : List Int} {i j : Nat} (h : 1 ≤ es.getD i 0) (hj : j < (shd es i).length) : 0 < (shd es i)[j] := by
  simp only [shd, List.getElem_map]
  exact cm_pos (by omega)
theorem w_lot1 (k : Nat) (es : List Int) (h : Ok es) (number : Nat) (i : Nat) (hi : i < es.length) (G : Sr) (lots : List (List Int)) (hl : lots.length ≤ 2 ^ i) (hm : ∀ l ∈ lots, l.length ≤ i ∧ ∀ o ∈ l, 0 ≤ o ∧ o < es.length) (x4 x5 : Option Vl) :
    ∃ lots' : List (List Int), lots'.length ≤ 2 ^ (i + 1) ∧ (∀ l ∈ lots', l.length ≤ i + 1 ∧ ∀ o ∈ l, 0 ≤ o ∧ o < es.length) ∧
    (sem gls (callK gls ds (k+1)) (fob lF2)).s [some (.p (wsT es)), some (.p (.int (number : Nat))), some (.r G.length), some (.p (.int (i : Nat))), x4, x5, none, none, none] (G ++ [.lp 0 (lots.map wsT)]) =
      .nx [some (.p (wsT es)), some (.p (.int (number : Nat))), some (.r G.length), some (.p (.int (i : Nat))), some (.p (.list ((shd es i).map .int))), x5, none, none, none] (G ++ [.lp 0 (lots'.map wsT)]) := by
  have hle := h.l
  refine ⟨lots ++ (lots.filter (fits number es i)).map fun l => l ++ [(i : Int)], ?_, ?_, ?_⟩
  · rw [List.length_append, List.length_map]
    have := List.length_filter_le (fits number es i) lots
    have : 2 ^ (i + 1) = 2 ^ i + 2 ^ i := by rw [Nat.pow_succ]; omega
    omega
  · intro l hl'
    rcases List.mem_append.mp hl' with q | q
    · have := hm l q
      exact ⟨by omega, this.2⟩
    · obtain ⟨l0, q1, rfl⟩ := List.mem_map.mp q
      have := hm l0 (List.mem_filter.mp q1).1
      refine ⟨by simp; omega, fun o ho => ?_⟩
      rcases List.mem_append.mp ho with q | q
      · exact this.2 o q
      · rw [List.mem_singleton.mp q]; omega
  · have f1 := atD (l := es) hi
    have e1 := h.d hi
    have b0 : (sem gls (callK gls ds (k+1)) (sti (fob lF2) 0)).s [some (.p (wsT es)), some (.p (.int (number : Nat))), some (.r G.length), some (.p (.int (i : Nat))), x4, x5, none, none, none] (G ++ [.lp 0 (lots.map wsT)]) =
        .nx [some (.p (wsT es)), some (.p (.int (number : Nat))), some (.r G.length), some (.p (.int (i : Nat))), some (.p (.list ((shd es i).map .int))), x5, none, none, none] (G ++ [.lp 0 (lots.map wsT)]) := by
      have vl : (es.map fun x => Vl.p (PyData.int x)).length ≤ lim := by simp; unfold lim; omega
      simp [lF2, lF, t_told_lot, sti, fob, cpAll_l vl]
      rw [cpL_map (f := fun v => match v with | .p (.int x) => .int (cm (es.getD i 0) x) | _ => .none)]
      · simp [shd, Function.comp_def, -List.getD_eq_getElem?_getD]
      · intro v hv
        obtain ⟨x, hx, rfl⟩ := List.mem_map.mp hv
        have xb := h.b x hx
        have a1 := w_cm k (es.getD i 0) x (by omega) (by omega)
        simp [wipeE, f1, a1, -List.getD_eq_getElem?_getD]
    have gt : (G ++ [Ob.lp 0 (lots.map wsT)])[G.length]? = some (.lp 0 (lots.map wsT)) := by simp
    have ndp : isDp (G ++ [Ob.lp 0 (lots.map wsT)]) G.length = false := by unfold isDp; rw [gt]
    have p2 : 2 ^ i ≤ 2 ^ 6 := Nat.pow_le_pow_right (by omega) (by omega)
    have io := itOf_r ndp
    have sb : ∀ o, 0 ≤ o → o < (es.length : Int) → L2.atI ((shd es i).map PyData.int) o = some (.int ((shd es i).getD o.toNat 0)) ∧ 0 < (shd es i).getD o.toNat 0 := fun o h0 h1 => by
      have hl2 : o.toNat < (shd es i).length := by unfold shd; rw [List.length_map]; omega
      refine ⟨?_, ?_⟩
      · have := atD hl2
        rwa [Int.toNat_of_nonneg h0] at this
      · rw [gd hl2]
        exact shd_pos e1.1 hl2
    have b1 : (sem gls (callK gls ds (k+1)) (sti (fob lF2) 1)).s [some (.p (wsT es)), some (.p (.int (number : Nat))), some (.r G.length), some (.p (.int (i : Nat))), some (.p (.list ((shd es i).map .int))), x5, none, none, none] (G ++ [.lp 0 (lots.map wsT)]) =
        .nx [some (.p (wsT es)), some (.p (.int (number : Nat))), some (.r G.length), some (.p (.int (i : Nat))), some (.p (.list ((shd es i).map .int))), x5, none, none, none] (G ++ [.lp 0 ((lots ++ (lots.filter (fits number es i)).map fun l => l ++ [(i : Int)]).map wsT)]) := by
      have ext : ∀ ys : List P, ys.length ≤ 64 → extV (.r G.length) [.p (.list ys)] (G ++ [.lp 0 (lots.map wsT)]) = some (G ++ [.lp 0 (lots.map wsT ++ ys)]) := fun ys hy => by
        have : (lots.map wsT).length + ys.length ≤ lim := by rw [List.length_map]; unfold lim; omega
        have this' : lots.length + ys.length ≤ lim := by rw [List.length_map] at this; exact this
        simp [extV, ddL, dd, gt, this', List.set_append]
      simp [lF2, lF, t_told_lot, sti, fob, io, isL, ndp]
      rw [cpR_fm (lotG (number : Nat) es i) gt (by simp; unfold bigN; omega)]
      · have e2 : (lots.map wsT).filterMap (lotG (number : Nat) es i) = ((lots.filter (fits number es i)).map fun l => l ++ [(i : Int)]).map wsT := by
          rw [List.filterMap_map, List.map_map, ← map_fm]
          congr 1
          funext l
          exact lotG_w _ _ _ _
        rw [e2]
        have hfl := List.length_filter_le (fits number es i) lots
        have hh := ext (((lots.filter (fits number es i)).map fun l => l ++ [(i : Int)]).map wsT) (by rw [List.length_map, List.length_map]; omega)
        simp only [bd_ok, mkLst_f]
        simp only [List.map_map] at hh
        simp [meV, hh]
      · intro x hx
        obtain ⟨l, hl', rfl⟩ := List.mem_map.mp hx
        have hml := hm l hl'
        have ll : (l.map fun x => Vl.p (PyData.int x)).length ≤ lim := by simp; unfold lim; omega
        refine ⟨[some (.p (wsT es)), some (.p (.int (number : Nat))), some (.r G.length), some (.p (.int (i : Nat))), some (.p (.list ((shd es i).map .int))), x5, none, some (.p (wsT l)), none], by simp [wipeE], ?_⟩
        have mt : ∀ s' : Sr, mkTup (l.map (fun x => Vl.p (.int x)) ++ [.p (.int (i : Int))]) s' = .ok (.p (wsT (l ++ [(i : Int)]))) s' := fun s' => by
          have := mkTup_ps (xs := (l ++ [(i : Int)]).map .int) (s := s') (by unfold lim; simp; omega)
          simp only [List.map_append, List.map_map, List.map_cons, List.map_nil] at this
          simpa [wsT, Function.comp_def] using this
        have ast : seqP (wsT l) = some (l.map .int) := rfl
        have hin : ∀ v ∈ l.map (fun x => Vl.p (PyData.int x)), ∃ o, v = .p (.int o) ∧ L2.atI ((shd es i).map PyData.int) o = some (.int ((shd es i).getD o.toNat 0)) ∧ binP .Mod (.int (number : Nat)) (.int ((shd es i).getD o.toNat 0)) = some (.int ((number : Int) % (shd es i).getD o.toNat 0)) := fun v hv => by
          obtain ⟨o, ho, rfl⟩ := List.mem_map.mp hv
          have hb := hml.2 o ho
          have q := sb o hb.1 hb.2
          exact ⟨o, rfl, q.1, b_mod q.2⟩
        by_cases c : fits (number : Nat) es i l = true
        · refine .inr ⟨wsT (l ++ [(i : Int)]), by rw [lotG_w, if_pos c], ?_, by simp [aStar, ast, Function.comp_def, mt]⟩
          simp [cnd, cpAll_l ll]
          rw [cpL_map (f := fitV number es i)]
          · unfold fits at c
            simp [fitV, Function.comp_def, c, -List.getD_eq_getElem?_getD, -List.all_eq_true]
          · intro v hv
            obtain ⟨o, rfl, h1, h2⟩ := hin v hv
            simp [wipeE, fitV, h1, h2, -List.getD_eq_getElem?_getD]
        · refine .inl ⟨by rw [lotG_w, if_neg c], ?_⟩
          simp [cnd, cpAll_l ll]
          rw [cpL_map (f := fitV number es i)]
          · unfold fits at c
            rw [Bool.not_eq_true] at c
            simp [fitV, Function.comp_def, c, -List.getD_eq_getElem?_getD, -List.all_eq_true, -List.all_eq_false]
          · intro v hv
            obtain ⟨o, rfl, h1, h2⟩ := hin v hv
            simp [wipeE, fitV, h1, h2, -List.getD_eq_getElem?_getD]
    have e0 : fob lF2 = .cons (sti (fob lF2) 0) (.cons (sti (fob lF2) 1) .nil) := rfl
    rw [e0]
    simp only [s_cons_s]
    rw [b0, th_nx, b1, th_nx]
    rfl
theorem w_lotL (k : Nat) (es : List Int) (h : Ok es) (number : Nat) (G : Sr) (x3 x4 x5 : Option Vl) :
    ∃ (lots' : List (List Int)) (y3 y4 : Option Vl), lots'.length ≤ 64 ∧
    forL (kV 3) (sem gls (callK gls ds (k+1)) (fob lF2)).s ((List.range es.length).map fun (j : Nat) => Vl.p (PyData.int (j : Int))) [some (.p (wsT es)), some (.p (.int (number : Nat))), some (.r G.length), x3, x4, x5, none, none, none] (G ++ [.lp 0 (([[]] : List (List Int)).map wsT)]) =
      .nx [some (.p (wsT es)), some (.p (.int (number : Nat))), some (.r G.length), y3, y4, x5, none, none, none] (G ++ [.lp 0 (lots'.map wsT)]) := by
  have hle := h.l
  have L := fun hh => forL_inv (tg := kV 3) (b := (sem gls (callK gls ds (k+1)) (fob lF2)).s)
    (fun n e s => ∃ (lots : List (List Int)) (y3 y4 : Option Vl), e = [some (.p (wsT es)), some (.p (.int (number : Nat))), some (.r G.length), y3, y4, x5, none, none, none] ∧ s = G ++ [.lp 0 (lots.map wsT)] ∧ lots.length ≤ 2 ^ n ∧ (∀ l ∈ lots, l.length ≤ n ∧ ∀ o ∈ l, 0 ≤ o ∧ o < es.length))
    ((List.range es.length).map fun (j : Nat) => Vl.p (PyData.int (j : Int))) 0 [some (.p (wsT es)), some (.p (.int (number : Nat))), some (.r G.length), x3, x4, x5, none, none, none] (G ++ [.lp 0 (([[]] : List (List Int)).map wsT)]) ⟨[[]], x3, x4, rfl, rfl, Nat.le_refl _, fun l hl => by
      rw [List.mem_singleton.mp hl]; exact ⟨Nat.le_refl _, fun o ho => absurd ho List.not_mem_nil⟩⟩ hh
  obtain ⟨e', s', h1, lots, y3, y4, rfl, rfl, h2, h3⟩ := L (by
    rintro i v e s hv ⟨lots, y3, y4, rfl, rfl, h2, h3⟩
    rw [Nat.zero_add] at h2 h3 ⊢
    obtain ⟨hi, rfl⟩ := rgV hv
    obtain ⟨lots', l1, l2, l3⟩ := w_lot1 k es h number i hi G lots h2 h3 y4 x5
    exact ⟨[some (.p (wsT es)), some (.p (.int (number : Nat))), some (.r G.length), some (.p (.int (i : Nat))), y4, x5, none, none, none], _, rfl, _, _, .inl l3, lots', _, _, rfl, rfl, l1, l2⟩)
  rw [Nat.zero_add, List.length_map, List.length_range] at h2
  have p2 : 2 ^ es.length ≤ 2 ^ 6 := Nat.pow_le_pow_right (by omega) (by omega)
  exact ⟨lots, y3, y4, by omega, h1⟩
def lotQ (w : Vl) : Prop := ∃ (n : Int) (l : List Int), w = .p (.tuple [.int n, wsT l])
theorem c_lot (k : Nat) (es : List Int) (h : Ok es) : ∃ v, (v = .none ∨ ∃ n l, v = .tuple [.int n, wsT l]) ∧ ∃ st', callK gls ds (k+2) 10 [.p (wsT es)] [] = .ok (.p v) st' := by
  rw [callK_at (d := ⟨t_told_lot, 1, 9⟩) rfl rfl]
  generalize hr : endX _ = r
  have hle := h.l
  have rg := rg_1 (es.length : Int) (by omega)
  rw [Int.toNat_natCast] at rg
  have rg0 : rgP [.int 1, .int 12] = some ((List.range 11).map fun (j : Nat) => .int ((j : Int) + 1)) := by
    rw [rgP_2 _ _ (by omega) (by omega), rng_eq]
    rfl
  have L := fun hh => forL_ret (tg := kV 1) (b := (sem gls (callK gls ds (k+1)) (fob lF)).s)
    (fun n e s => ∃ x1 x2 x3 x4 x5, e = [some (.p (wsT es)), x1, x2, x3, x4, x5, none, none, none])
    (fun w _ => lotQ w)
    ((List.range 11).map fun (j : Nat) => Vl.p (PyData.int ((j : Int) + 1))) 0 [some (.p (wsT es)), none, none, none, none, none, none, none, none] [] ⟨none, none, none, none, none, rfl⟩ hh
  have L := L (by
    rintro i v e s hv ⟨x1, x2, x3, x4, x5, rfl⟩
    rw [List.getElem?_map] at hv
    obtain ⟨j, hj, rfl⟩ := Option.map_eq_some_iff.mp hv
    clear hv hj
    refine ⟨[some (.p (wsT es)), some (.p (.int ((j + 1 : Nat) : Int))), x2, x3, x4, x5, none, none, none], s, by simp, ?_⟩
    generalize j + 1 = number
    obtain ⟨lots, y3, y4, l1, l2⟩ := w_lotL k es h number s x3 x4 x5
    have e0 : fob lF = .cons (sti (fob lF) 0) (.cons lF2 (.cons (sti (fob lF) 2) (.cons (sti (fob lF) 3) .nil))) := rfl
    have b0 : (sem gls (callK gls ds (k+1)) (sti (fob lF) 0)).s [some (.p (wsT es)), some (.p (.int (number : Nat))), x2, x3, x4, x5, none, none, none] s = .nx [some (.p (wsT es)), some (.p (.int (number : Nat))), some (.r s.length), x3, x4, x5, none, none, none] (s ++ [.lp 0 (([[]] : List (List Int)).map wsT)]) := by
      have mt : ∀ s' : Sr, mkTup [] s' = .ok (.p (wsT [])) s' := fun s' => rfl
      have ml : ∀ s' : Sr, mkLstV true [.p (wsT [])] s' = .ok (.r s'.length) (s' ++ [.lp 0 [wsT []]]) := fun s' => rfl
      simp [lF, t_told_lot, sti, fob, mt, ml]
    have fa := fo_at (gl := gls) (F := callK gls ds (k+1)) (t := lF2) (e := [some (.p (wsT es)), some (.p (.int (number : Nat))), some (.r s.length), x3, x4, x5, none, none, none]) (s := s ++ [.lp 0 (([[]] : List (List Int)).map wsT)]) (s' := s ++ [.lp 0 (([[]] : List (List Int)).map wsT)]) (vs := (List.range es.length).map fun (j : Nat) => Vl.p (PyData.int (j : Int))) ⟨_, _, _, _, rfl⟩ (by
      simp [lF2, lF, t_told_lot, sti, fob, foi, rg, Function.comp_def])
    have fl : (sem gls (callK gls ds (k+1)) lF2).s [some (.p (wsT es)), some (.p (.int (number : Nat))), some (.r s.length), x3, x4, x5, none, none, none] (s ++ [.lp 0 (([[]] : List (List Int)).map wsT)]) = _ := fa.trans l2
    have gt : (s ++ [Ob.lp 0 (lots.map wsT)])[s.length]? = some (.lp 0 (lots.map wsT)) := by simp
    have ndp : isDp (s ++ [Ob.lp 0 (lots.map wsT)]) s.length = false := by unfold isDp; rw [gt]
    have io := itOf_r ndp
    have b2 : (sem gls (callK gls ds (k+1)) (sti (fob lF) 2)).s [some (.p (wsT es)), some (.p (.int (number : Nat))), some (.r s.length), y3, y4, x5, none, none, none] (s ++ [.lp 0 (lots.map wsT)]) = .nx [some (.p (wsT es)), some (.p (.int (number : Nat))), some (.r s.length), y3, y4, some (.p (.list ((lots.filter fun l => decide ((number : Int) < (l.length : Int))).map wsT))), none, none, none] (s ++ [.lp 0 (lots.map wsT)]) := by
      simp [lF, t_told_lot, sti, fob, io, ndp]
      rw [cpR_fm (fun x => match x with | .tuple xs => if decide ((number : Int) < (xs.length : Int)) = true then some x else none | _ => none) gt (by simp; unfold bigN; omega)]
      · have e2 : (lots.map wsT).filterMap (fun x => match x with | .tuple xs => if decide ((number : Int) < (xs.length : Int)) = true then some x else none | _ => none) = ((lots.filter fun l => decide ((number : Int) < (l.length : Int))).map wsT) := by
          rw [List.filterMap_map, ← map_fm]
          congr 1
          funext l
          simp [wsT]
        rw [e2]
        simp
      · intro x hx
        obtain ⟨l, hl', rfl⟩ := List.mem_map.mp hx
        refine ⟨[some (.p (wsT es)), some (.p (.int (number : Nat))), some (.r s.length), y3, y4, x5, none, some (.p (wsT l)), none], by simp [wipeE], ?_⟩
        by_cases c : (number : Int) < (l.length : Int)
        · refine .inr ⟨wsT l, by simp [wsT]; omega, by simp [cnd, c], by simp⟩
        · refine .inl ⟨by simp [wsT]; omega, by simp [cnd, c]⟩
    generalize hfit : (lots.filter fun l => decide ((number : Int) < (l.length : Int))) = fit at *
    have nw := ne_WW fit
    rw [e0]
    simp only [s_cons_s]
    rw [b0, th_nx, fl, th_nx, b2, th_nx]
    by_cases c : fit = []
    · subst c
      simp at nw
      refine .inl ⟨[some (.p (wsT es)), some (.p (.int (number : Nat))), some (.r s.length), y3, y4, some (.p (.list [])), none, none, none], s ++ [.lp 0 (lots.map wsT)], by simp [lF, t_told_lot, sti, fob, nw], _, _, _, _, _, rfl⟩
    · obtain ⟨m, hm, hmin⟩ := min_WW fit c
      simp [c] at nw
      have mt : ∀ s' : Sr, mkTup [.p (.int (number : Nat)), .p (wsT m)] s' = .ok (.p (.tuple [.int (number : Nat), wsT m])) s' := fun s' => rfl
      refine .inr ⟨.p (.tuple [.int (number : Nat), wsT m]), _, by simp [lF, t_told_lot, sti, fob, nw, hmin, mt]; rfl, _, _, rfl⟩)
  have e0 : t_told_lot = .cons lF (.cons (sti t_told_lot 1) .nil) := rfl
  have fa := fo_at (gl := gls) (F := callK gls ds (k+1)) (t := lF) (e := [some (.p (wsT es)), none, none, none, none, none, none, none, none]) (s := []) (s' := []) (vs := (List.range 11).map fun (j : Nat) => Vl.p (PyData.int ((j : Int) + 1))) ⟨_, _, _, _, rfl⟩ (by
    simp [lF, t_told_lot, sti, foi, rg0, Function.comp_def])
  have es0 : ([Vl.p (wsT es)].map some ++ List.replicate (9 - 1) none) = [some (.p (wsT es)), none, none, none, none, none, none, none, none] := rfl
  simp only [es0] at hr
  rw [e0] at hr
  simp only [s_cons_s] at hr
  rw [fa] at hr
  rcases L with ⟨e', s', h1, x1, x2, x3, x4, x5, rfl⟩ | ⟨w, s', h1, n, l, rfl⟩
  · have h1' : forL (sem gls (callK gls ds (k+1)) (fot lF)).k (sem gls (callK gls ds (k+1)) (fob lF)).s ((List.range 11).map fun (j : Nat) => Vl.p (PyData.int ((j : Int) + 1))) [some (.p (wsT es)), none, none, none, none, none, none, none, none] [] = _ := h1
    rw [h1'] at hr
    simp [t_told_lot, sti] at hr
    exact ⟨.none, .inl rfl, _, hr.symm⟩
  · have h1' : forL (sem gls (callK gls ds (k+1)) (fot lF)).k (sem gls (callK gls ds (k+1)) (fob lF)).s ((List.range 11).map fun (j : Nat) => Vl.p (PyData.int ((j : Int) + 1))) [some (.p (wsT es)), none, none, none, none, none, none, none, none] [] = _ := h1
    rw [h1'] at hr
    simp at hr
    exact ⟨_, .inr ⟨n, l, rfl⟩, _, hr.symm⟩
end K69
end
section
set_option linter.all false
set_option maxRecDepth 100000
set_option maxHeartbeats 1000000
namespace K69
open PySem Mi
/-! told_racking, racking -/
def tb (es : List Int) : Nat × Nat := ldf (es.map Int.toNat)
inductive TR (es : List Int) : P → Prop
  | beg (bs : List Int) (b : Bg es bs) (a : Apart es bs) (h : (tb es).1 ≤ (tb es).2) : TR es (.tuple [.str "begin", wsT bs])
  | load (h : (tb es).2 < (tb es).1) : TR es (.tuple [.str "load", .int ((tb es).1 : Nat), .int ((tb es).2 : Nat)])
  | oth (w : Str) (rest : List P) (hw : w ≠ "begin") (no : ¬ Ex es) (h : (tb es).1 ≤ (tb es).2) : TR es (.tuple (.str w :: rest))
theorem good_of {es bs : List Int} (b : Bg es bs) (a : Apart es bs) : Good (bs.zip es) ∧ (bs.zip es).map (·.2) = es := by
  refine ⟨⟨b.2, a⟩, ?_⟩
  rw [List.map_snd_zip]
  exact Nat.le_of_eq b.1.symm
theorem ex_of {es bs : List Int} (b : Bg es bs) (a : Apart es bs) : Ex es := ⟨bs.zip es, (good_of b a).2, (good_of b a).1⟩
theorem no_pair {es : List Int} {i j : Nat} (hi : i < es.length) (hj : j < i) (h : cm (es.getD i 0) (es.getD j 0) = 1) : ¬ Ex es := by
  rintro ⟨ps, e, g⟩
  have hl : ps.length = es.length := by rw [← e, List.length_map]
  have pw := List.pairwise_iff_getElem.mp g.2 j i (by omega) (by omega) hj
  apply pw
  unfold M
  have e1 : ∀ a (ha : a < ps.length), (ps[a]).2 = es.getD a 0 := fun a ha => by
    rw [gd (by omega)]
    simp only [← e, List.getElem_map]
  rw [e1, e1, cm_comm, h]
  exact Int.one_dvd _
def tP : T := sti t_told_racking 2
def tP2 : T := sti (fob tP) 0
def pairQ (es : List Int) (w : Vl) : Prop := (∃ i j : Int, w = .p (.tuple [.str "pair", .int i, .int j])) ∧ ¬ Ex es
theorem w_pairs (k : Nat) (es : List Int) (h : Ok es) (x1 x2 : Option Vl) : (∃ y3 y4, (sem gls (callK gls ds (k+1)) tP).s [some (.p (wsT es)), x1, x2, none, none, none, none] [] = .nx [some (.p (wsT es)), x1, x2, y3, y4, none, none] []) ∨ ∃ w s', (sem gls (callK gls ds (k+1)) tP).s [some (.p (wsT es)), x1, x2, none, none, none, none] [] = .rt w s' ∧ pairQ es w := by
  have hle := h.l
  have rg := rg_1 (es.length : Int) (by omega)
  rw [Int.toNat_natCast] at rg
  have inn : ∀ (i : Nat) (hi : i < es.length) (x4 : Option Vl), (∃ y4, forL (kV 4) (sem gls (callK gls ds (k+1)) (fob tP2)).s ((List.range i).map fun (j : Nat) => Vl.p (PyData.int (j : Int))) [some (.p (wsT es)), x1, x2, some (.p (.int (i : Nat))), x4, none, none] [] = .nx [some (.p (wsT es)), x1, x2, some (.p (.int (i : Nat))), y4, none, none] []) ∨
      ∃ w s', forL (kV 4) (sem gls (callK gls ds (k+1)) (fob tP2)).s ((List.range i).map fun (j : Nat) => Vl.p (PyData.int (j : Int))) [some (.p (wsT es)), x1, x2, some (.p (.int (i : Nat))), x4, none, none] [] = .rt w s' ∧ pairQ es w := by
    intro i hi x4
    have L := fun hh => forL_ret (tg := kV 4) (b := (sem gls (callK gls ds (k+1)) (fob tP2)).s)
      (fun n e s => s = [] ∧ (∃ y4, e = [some (.p (wsT es)), x1, x2, some (.p (.int (i : Nat))), y4, none, none]))
      (fun w _ => pairQ es w)
      ((List.range i).map fun (j : Nat) => Vl.p (PyData.int (j : Int))) 0 [some (.p (wsT es)), x1, x2, some (.p (.int (i : Nat))), x4, none, none] [] ⟨rfl, ⟨x4, rfl⟩⟩ hh
    rcases L (by
      rintro j v e s hv ⟨rfl, ⟨y4, rfl⟩⟩
      obtain ⟨hj, rfl⟩ := rgV hv
      have f1 := atD (l := es) hi
      have f2 := atD (l := es) (i := j) (by omega)
      have e1 := h.d hi
      have e2 := h.d (i := j) (by omega)
      have np := no_pair (es := es) hi hj
      generalize es.getD i 0 = ei at *
      generalize es.getD j 0 = ej at *
      have a1 := w_cm k ei ej (by omega) (by omega)
      refine ⟨[some (.p (wsT es)), x1, x2, some (.p (.int (i : Nat))), some (.p (.int (j : Nat))), none, none], [], by simp, ?_⟩
      have mt : ∀ s' : Sr, mkTup [.p (.str "pair"), .p (.int (j : Nat)), .p (.int (i : Nat))] s' = .ok (.p (.tuple [.str "pair", .int (j : Nat), .int (i : Nat)])) s' := fun s' => rfl
      by_cases c : cm ei ej = 1
      · exact .inr ⟨.p (.tuple [.str "pair", .int (j : Nat), .int (i : Nat)]), [], by simp [tP2, tP, t_told_racking, sti, fob, f1, f2, a1, c, mt], ⟨_, _, rfl⟩, np c⟩
      · exact .inl ⟨[some (.p (wsT es)), x1, x2, some (.p (.int (i : Nat))), some (.p (.int (j : Nat))), none, none], [], by simp [tP2, tP, t_told_racking, sti, fob, f1, f2, a1, c], rfl, _, rfl⟩) with ⟨e', s', h1, rfl, ⟨y4, rfl⟩⟩ | ⟨w, s', h1, h2⟩
    · exact .inl ⟨y4, h1⟩
    · exact .inr ⟨w, s', h1, h2⟩
  have L := fun hh => forL_ret (tg := kV 3) (b := (sem gls (callK gls ds (k+1)) (fob tP)).s)
    (fun n e s => s = [] ∧ (∃ y3 y4, e = [some (.p (wsT es)), x1, x2, y3, y4, none, none]))
    (fun w _ => pairQ es w)
    ((List.range es.length).map fun (j : Nat) => Vl.p (PyData.int (j : Int))) 0 [some (.p (wsT es)), x1, x2, none, none, none, none] [] ⟨rfl, ⟨none, none, rfl⟩⟩ hh
  have L := L (by
    rintro i v e s hv ⟨rfl, ⟨y3, y4, rfl⟩⟩
    obtain ⟨hi, rfl⟩ := rgV hv
    refine ⟨[some (.p (wsT es)), x1, x2, some (.p (.int (i : Nat))), y4, none, none], [], by simp, ?_⟩
    have rgi := rg_1 (i : Int) (by omega)
    rw [Int.toNat_natCast] at rgi
    have e0 : fob tP = .cons tP2 .nil := rfl
    have fa := fo_at (gl := gls) (F := callK gls ds (k+1)) (t := tP2) (e := [some (.p (wsT es)), x1, x2, some (.p (.int (i : Nat))), y4, none, none]) (s := []) (s' := []) (vs := (List.range i).map fun (j : Nat) => Vl.p (PyData.int (j : Int))) ⟨_, _, _, _, rfl⟩ (by
      simp [tP2, tP, t_told_racking, sti, fob, foi, rgi, Function.comp_def])
    have ev : ∀ x, (sem gls (callK gls ds (k+1)) tP2).s [some (.p (wsT es)), x1, x2, some (.p (.int (i : Nat))), y4, none, none] [] = x → (sem gls (callK gls ds (k+1)) (fob tP)).s [some (.p (wsT es)), x1, x2, some (.p (.int (i : Nat))), y4, none, none] [] = x := fun x hx => by
      rw [e0, s_cons_s]
      show ((sem gls _ tP2).s _ _).th _ = _
      rw [hx]
      exact th_id x
    rcases inn i hi y4 with ⟨z4, h4⟩ | ⟨w, s', h4, h5⟩
    · exact .inl ⟨_, [], ev _ (fa.trans h4), rfl, ⟨_, _, rfl⟩⟩
    · exact .inr ⟨w, s', ev _ (fa.trans h4), h5⟩)
  have fa := fo_at (gl := gls) (F := callK gls ds (k+1)) (t := tP) (e := [some (.p (wsT es)), x1, x2, none, none, none, none]) (s := []) (s' := []) (vs := (List.range es.length).map fun (j : Nat) => Vl.p (PyData.int (j : Int))) ⟨_, _, _, _, rfl⟩ (by
    simp [tP, t_told_racking, sti, foi, rg, Function.comp_def])
  rcases L with ⟨e', s', h1, rfl, ⟨y3, y4, rfl⟩⟩ | ⟨w, s', h1, h2⟩
  · exact .inl ⟨y3, y4, fa.trans h1⟩
  · exact .inr ⟨w, s', fa.trans h1, h2⟩
/-- casks that racking is asked for: either few and small, or of a load above one -/
def Rk (es : List Int) : Prop := Ok es ∧ ((es.length ≤ 5 ∧ ∀ e ∈ es, e ≤ 16) ∨ (tb es).2 < (tb es).1)
theorem c_tr (k : Nat) (es : List Int) (hk : Rk es) : ∃ v, TR es v ∧ ∃ st', callK gls ds (k+5) 13 [.p (wsT es)] [] = .ok (.p v) st' := by
  obtain ⟨h, hk⟩ := hk
  rw [callK_at (d := ⟨t_told_racking, 1, 7⟩) rfl rfl]
  generalize hr : endX _ = r
  have hle := h.l
  have a1 := fun s => callW_p1 (f := callK gls ds (k+4) 9) (m := false) (s := s) (c_load (k+2) es h [])
  have es0 : ([Vl.p (wsT es)].map some ++ List.replicate (7 - 1) none) = [some (.p (wsT es)), none, none, none, none, none, none] := rfl
  have e0 : t_told_racking = .cons (sti t_told_racking 0) (.cons (sti t_told_racking 1) (.cons tP (.cons (sti t_told_racking 3) (.cons (sti t_told_racking 4) (.cons (sti t_told_racking 5) (.cons (sti t_told_racking 6) .nil)))))) := rfl
  have hT : tb es = ldf (es.map Int.toNat) := rfl
  have b0 : (sem gls (callK gls ds (k+4)) (sti t_told_racking 0)).s [some (.p (wsT es)), none, none, none, none, none, none] [] = .nx [some (.p (wsT es)), some (.p (.int ((tb es).1 : Nat))), some (.p (.int ((tb es).2 : Nat))), none, none, none, none] [] := by
    simp [t_told_racking, sti, a1, cnt, hT]
  simp only [es0] at hr
  rw [e0] at hr
  simp only [s_cons_s] at hr
  rw [b0, th_nx] at hr
  by_cases c : (tb es).2 < (tb es).1
  · have mt : ∀ s' : Sr, mkTup [.p (.str "load"), .p (.int ((tb es).1 : Nat)), .p (.int ((tb es).2 : Nat))] s' = .ok (.p (.tuple [.str "load", .int ((tb es).1 : Nat), .int ((tb es).2 : Nat)])) s' := fun s' => rfl
    simp [t_told_racking, sti, c, mt] at hr
    exact ⟨_, .load c, _, hr.symm⟩
  · have hs := hk.resolve_right c
    have b1 : (sem gls (callK gls ds (k+4)) (sti t_told_racking 1)).s [some (.p (wsT es)), some (.p (.int ((tb es).1 : Nat))), some (.p (.int ((tb es).2 : Nat))), none, none, none, none] [] = .nx [some (.p (wsT es)), some (.p (.int ((tb es).1 : Nat))), some (.p (.int ((tb es).2 : Nat))), none, none, none, none] [] := by
      simp [t_told_racking, sti, c]
    have hc : (tb es).1 ≤ (tb es).2 := by omega
    rw [b1, th_nx] at hr
    rcases w_pairs (k+3) es h (some (.p (.int ((tb es).1 : Nat)))) (some (.p (.int ((tb es).2 : Nat)))) with ⟨y3, y4, q⟩ | ⟨w, s', q, ⟨i, j, rfl⟩, no⟩
    · rw [q, th_nx] at hr
      obtain ⟨v, hv, st1, c1⟩ := c_tbegun k es h hs.1 hs.2
      have a2 := fun s => callW_p1 (f := callK gls ds (k+4) 11) (m := false) (s := s) c1
      rcases hv with ⟨bs, rfl, v1, v2⟩ | ⟨rfl, no⟩
      · have isn : cmpP .IsNot (wsT bs) .none = some true := rfl
        have mt : ∀ s' : Sr, mkTup [.p (.str "begin"), .p (wsT bs)] s' = .ok (.p (.tuple [.str "begin", wsT bs])) s' := fun s' => rfl
        simp [t_told_racking, sti, a2, isn, mt] at hr
        exact ⟨_, .beg bs v1 v2 hc, _, hr.symm⟩
      · have isn : cmpP .IsNot .none .none = some false := rfl
        obtain ⟨w, hw, st2, c2⟩ := c_lot (k+2) es h
        have a3 := fun s => callW_p1 (f := callK gls ds (k+4) 10) (m := false) (s := s) c2
        rcases hw with rfl | ⟨n, l, rfl⟩
        · have mt : ∀ s' : Sr, mkTup [.p (.str "tried")] s' = .ok (.p (.tuple [.str "tried"])) s' := fun s' => rfl
          simp [t_told_racking, sti, a2, a3, isn, mt] at hr
          exact ⟨_, .oth "tried" [] (by decide +kernel) no hc, _, hr.symm⟩
        · have isn2 : cmpP .IsNot (.tuple [.int n, wsT l]) .none = some true := rfl
          have mt : ∀ s' : Sr, mkTup [.p (.str "lot"), .p (.int n), .p (wsT l)] s' = .ok (.p (.tuple [.str "lot", .int n, wsT l])) s' := fun s' => rfl
          have sq : seqP (.tuple [.int n, wsT l]) = some [.int n, wsT l] := rfl
          simp [t_told_racking, sti, a2, a3, isn, isn2, mt, aStar, sq] at hr
          exact ⟨_, .oth "lot" _ (by decide +kernel) no hc, _, hr.symm⟩
    · rw [q] at hr
      simp at hr
      exact ⟨_, .oth "pair" _ (by decide +kernel) no hc, _, hr.symm⟩
theorem c_racking (k : Nat) (es : List Int) (hk : Rk es) : ∃ v, TR es v ∧ ∃ st', callK gls ds (k+6) 14 [.p (wsT es)] [] = .ok (.p v) st' := by
  obtain ⟨v, hv, st1, c1⟩ := c_tr k es hk
  rw [callK_at (d := ⟨t_racking, 1, 1⟩) rfl rfl]
  have a1 := fun s => callW_p1 (f := callK gls ds (k+5) 4) (m := false) (s := s) (c_look (k+1) es hk.1 [])
  have a2 := fun s => callW_p1 (f := callK gls ds (k+5) 13) (m := false) (s := s) c1
  exact ⟨v, hv, [], by simp [t_racking, a1, a2]⟩
end K69
end
section
set_option linter.all false
set_option maxRecDepth 100000
set_option maxHeartbeats 1000000
namespace K69
open PySem Mi
theorem told2 (k : Nat) (x : Str) (y : P) (st : Sr) : callK gls ds (k+1) 2 [.p (.tuple [.str x, y]), .p (.tuple [.int 1, .int 2, .int 3])] st = .ok (.p (.bool true)) st := by
  rw [callK_at (d := ⟨t_is_told, 2, 2⟩) rfl rfl]
  have h := in_tup (i := 2) (ns := [1, 2, 3])
  simp at h
  simp [t_is_told, h]
theorem told3 (k : Nat) (x : Str) (y z : P) (st : Sr) : callK gls ds (k+1) 2 [.p (.tuple [.str x, y, z]), .p (.tuple [.int 1, .int 2, .int 3])] st = .ok (.p (.bool true)) st := by
  rw [callK_at (d := ⟨t_is_told, 2, 2⟩) rfl rfl]
  have h := in_tup (i := 3) (ns := [1, 2, 3])
  simp at h
  simp [t_is_told, h]
theorem c_shb (k : Nat) (es bs : List Int) (h : Ok es) (b : Bg es bs) (a : Apart es bs) : ∃ st', callK gls ds (k+6) 16 [.p (wsT es), .p (.tuple [.str "begin", wsT bs])] [] = .ok (.p (.bool true)) st' := by
  rw [callK_at (d := ⟨t_shows_racking, 2, 4⟩) rfl rfl]
  have a1 := fun s => callW_p1 (f := callK gls ds (k+5) 4) (m := false) (s := s) (c_look (k+1) es h [])
  have a2 := fun s => callW_p2 (f := callK gls ds (k+5) 2) (m := false) (s := s) (told2 (k+4) "begin" (wsT bs) [])
  have a3 := fun s => callW_p1 (f := callK gls ds (k+5) 9) (m := false) (s := s) (c_load (k+3) es h [])
  have a4 := fun s => callW_p2 (f := callK gls ds (k+5) 5) (m := false) (s := s) (c_begun (k+2) es bs h b [])
  obtain ⟨v, hv, st1, c1⟩ := c_first k es bs h b
  have a5 := fun s => callW_p2 (f := callK gls ds (k+5) 8) (m := false) (s := s) c1
  rcases hv with ⟨rfl, _⟩ | ⟨_, no⟩
  · have isn : cmpP .Is .none .none = some true := rfl
    exact ⟨[], by simp [t_shows_racking, a1, a2, a3, a4, a5, cnt, isn]⟩
  · exact absurd a no
theorem tb_ok {es : List Int} (h : Ok es) : 1 ≤ (tb es).2 ∧ (tb es).2 ≤ 191102976 := by
  have := ldf_ok (es.map Int.toNat) fun x hx => by
    obtain ⟨y, hy, rfl⟩ := List.mem_map.mp hx
    have := h.b y hy; omega
  have hl := h.l
  have p : 24 ^ (es.map Int.toNat).length ≤ 24 ^ 6 := Nat.pow_le_pow_right (by omega) (by rw [List.length_map]; omega)
  have e : tb es = ldf (es.map Int.toNat) := rfl
  rw [e]
  omega
theorem c_shl (k : Nat) (es : List Int) (h : Ok es) (hb : (tb es).2 < (tb es).1) : ∃ st', callK gls ds (k+6) 16 [.p (wsT es), .p (.tuple [.str "load", .int ((tb es).1 : Nat), .int ((tb es).2 : Nat)])] [] = .ok (.p (.bool true)) st' := by
  rw [callK_at (d := ⟨t_shows_racking, 2, 4⟩) rfl rfl]
  have a1 := fun s => callW_p1 (f := callK gls ds (k+5) 4) (m := false) (s := s) (c_look (k+1) es h [])
  have a2 := fun s => callW_p2 (f := callK gls ds (k+5) 2) (m := false) (s := s) (told3 (k+4) "load" (.int ((tb es).1 : Nat)) (.int ((tb es).2 : Nat)) [])
  have hT : ldf (es.map Int.toNat) = tb es := rfl
  have a3 := fun s => callW_p1 (f := callK gls ds (k+5) 9) (m := false) (s := s) (c_load (k+3) es h [])
  rw [hT] at a3
  have t1 := tb_ok h
  generalize tb es = q at *
  obtain ⟨t, b⟩ := q
  simp only at *
  have m1 : binP .Mult (.int (t : Nat)) (.int (b : Nat)) = some (.int ((t : Int) * b)) := mul_okr (by omega)
  have i1 := c_are_ints (k+3) [(t : Int), (b : Int)] 1 ((t : Int) * b) [] (by simp; unfold lim; omega)
  have hle1 : (t : Int) ≤ (t : Int) * b := by
    have : t * 1 ≤ t * b := Nat.mul_le_mul_left _ t1.1
    have := Int.ofNat_le.mpr this
    push_cast at this; omega
  have hle2 : (b : Int) ≤ (t : Int) * b := by
    have : 1 * b ≤ t * b := Nat.mul_le_mul_right _ (by omega)
    have := Int.ofNat_le.mpr this
    push_cast at this; omega
  have al : ([(t : Int), (b : Int)].all fun i => decide (1 ≤ i) && decide (i ≤ (t : Int) * b)) = true := by
    have g1 : (1 : Int) ≤ t := by omega
    have g2 : (1 : Int) ≤ b := by omega
    simp [hle1, hle2, g1, g2]
  rw [al] at i1
  have a4 := fun s => callW_p3 (f := callK gls ds (k+5) 1) (m := false) (s := s) i1
  have ne : ¬ ("load" : Str) = "begin" := by decide +kernel
  have ct : cut [PyData.str "load", .int (t : Int), .int (b : Int)] (some 1) none = [.int (t : Int), .int (b : Int)] := rfl
  have eqt : cmpP .Eq (.tuple [.int (t : Int), .int (b : Int)]) (.tuple [.int (t : Int), .int (b : Int)]) = some true := by
    have s1 := sh_tup (ns := [(t : Int), (b : Int)])
    simp only [List.map_cons, List.map_nil] at s1
    simp only [cmpP, s1, Bool.and_self, if_true]
    simp [PyData.eqv, PyData.eqvAll]
  have mt : ∀ s' : Sr, mkTup [.p (.int (t : Nat)), .p (.int (b : Nat))] s' = .ok (.p (.tuple [.int (t : Nat), .int (b : Nat)])) s' := fun s' => rfl
  simp only [List.map_cons, List.map_nil] at a4
  exact ⟨[], by simp [t_shows_racking, a1, a2, a3, a4, ne, ct, cnt, eqt, m1, hb, mt]⟩
end K69
end
section
set_option linter.all false
set_option maxRecDepth 100000
set_option maxHeartbeats 2000000
namespace K69
open PySem Mi
/-! _law_some -/
theorem ixN_nat {n i : Nat} (h : i < n) : L2.ixN n (i : Int) = some i := by
  unfold L2.ixN
  rw [if_pos (by omega), if_pos (by omega)]
  simp
theorem perm_erase {α : Type} : ∀ (l : List α) (i : Nat) (h : i < l.length), (l[i] :: l.eraseIdx i).Perm l
  | x :: r, 0, _ => .refl _
  | x :: r, i + 1, h => by
    have ih := perm_erase r i (by simpa using h)
    simp only [List.getElem_cons_succ, List.eraseIdx_cons_succ]
    exact (List.Perm.swap _ _ _).trans (List.Perm.cons _ ih)
def ES (pool : List Int) (m : Nat) (x5 : Option Vl) : En := [some (.r 0), some (.p (.list (pool.map .int))), some (.p (.int (m : Nat))), some (.r 1), some (.r 2), x5]
def SS (p : Pot) (rs fs : List Int) : Sr := [p.o, .lp 0 (rs.map .int), .lp 0 (fs.map .int)]
theorem c_some (k N : Nat) (p : Pot) (g : Gp N p) (hN : N < 900000) (pool : List Int) (m : Nat) (hm : m ≤ pool.length) (hp : pool.length ≤ 100) :
    ∃ (q : Pot) (rs fs : List Int), Gp (N + m) q ∧ fs.length = m ∧ (fs ++ rs).Perm pool ∧ callK gls ds (k+2) 21 [.r 0, .p (.list (pool.map .int)), .p (.int (m : Nat))] [p.o] = .ok (.r 2) (SS q rs fs) := by
  rw [callK_at (d := ⟨t__law_some, 3, 6⟩) rfl rfl]
  generalize hr : endX _ = r
  have rg := rg_1 (m : Int) (by omega)
  rw [Int.toNat_natCast] at rg
  have L := fun hh => forL_inv (tg := kV 5) (b := (sem gls (callK gls ds (k+1)) (fob (sti t__law_some 1))).s)
    (fun n e s => ∃ (q : Pot) (rs fs : List Int) (x5 : Option Vl), e = ES pool m x5 ∧ s = SS q rs fs ∧ Gp (N + n) q ∧ fs.length = n ∧ (fs ++ rs).Perm pool)
    ((List.range m).map fun (j : Nat) => Vl.p (PyData.int (j : Int))) 0 (ES pool m none) (SS p pool []) ⟨p, pool, [], none, rfl, rfl, g, rfl, .refl _⟩ hh
  obtain ⟨e', s', h1, q, rs, fs, x5, rfl, rfl, h2, h3, h4⟩ := L (by
    rintro j v e s hv ⟨q, rs, fs, x5, rfl, rfl, h2, h3, h4⟩
    rw [Nat.zero_add] at h2 h3 ⊢
    obtain ⟨hj, rfl⟩ := rgV hv
    have hl := h4.length_eq
    rw [List.length_append] at hl
    obtain ⟨d, q2, d0, d1, g2, w2⟩ := w_take k _ q (rs.length : Int) h2 (by omega) (by omega)
    obtain ⟨i, rfl⟩ : ∃ i : Nat, d = i := ⟨d.toNat, by omega⟩
    have hi : i < rs.length := by omega
    have f2 := fun m => w2 0 (SS q rs fs) m rfl
    have f2 : ∀ m, callW (callK gls ds (k+1) 18) m [.r 0, .p (.int (rs.length : Int))] (SS q rs fs) = .ok (.p (.int (i : Int))) (SS q2 rs fs) := f2
    have p1 : meV .pop (.r 1) [.p (.int (i : Int))] (SS q2 rs fs) = .ok (.p (.int rs[i])) (SS q2 (rs.eraseIdx i) fs) := by
      have : rs.length ≤ lim := by unfold lim; omega
      simp [meV, popV, ddL, dd, SS, ixN_nat hi, this, hi]
      simp only [List.eraseIdx_eq_take_drop_succ, List.map_append, List.map_take, List.map_drop]
    have a1 : ∀ x : Int, appV (.r 2) (.p (.int x)) (SS q2 (rs.eraseIdx i) fs) = some (SS q2 (rs.eraseIdx i) (fs ++ [x])) := fun x => by
      unfold SS
      rw [app_lp (n := 2) (xs := fs.map .int) rfl (by simp; unfold lim; omega)]
      simp
    have iL1 : isL (.r 1) (SS q rs fs) = true := rfl
    have iL2 : isL (.r 2) (SS q rs fs) = true := rfl
    have dl : dd (.r 1) (SS q rs fs) = some (.list (rs.map .int)) := rfl
    refine ⟨ES pool m (some (.p (.int (j : Nat)))), SS q rs fs, rfl, ES pool m (some (.p (.int (j : Nat)))), SS q2 (rs.eraseIdx i) (fs ++ [rs[i]]), .inl ?_, q2, rs.eraseIdx i, fs ++ [rs[i]], _, rfl, rfl, g2, by simp; omega, ?_⟩
    · simp [t__law_some, sti, fob, ES, iL1, iL2, dl, f2, p1, a1, -isL, -isDp]
    · rw [List.append_assoc, List.singleton_append]
      exact (List.Perm.append_left fs (perm_erase rs i hi)).trans h4)
  rw [Nat.zero_add, List.length_map, List.length_range] at h2 h3
  have e0 : t__law_some = .cons (sti t__law_some 0) (.cons (sti t__law_some 1) (.cons (sti t__law_some 2) .nil)) := rfl
  have es0 : ([Vl.r 0, .p (.list (pool.map .int)), .p (.int (m : Nat))].map some ++ List.replicate (6 - 3) none) = [some (.r 0), some (.p (.list (pool.map .int))), some (.p (.int (m : Nat))), none, none, none] := rfl
  have b0 : (sem gls (callK gls ds (k+1)) (sti t__law_some 0)).s [some (.r 0), some (.p (.list (pool.map .int))), some (.p (.int (m : Nat))), none, none, none] [p.o] = .nx (ES pool m none) (SS p pool []) := by
    have l1 : lsmV [.p (.list (pool.map PyData.int))] [p.o] = .ok (.r 1) [p.o, .lp 0 (pool.map .int)] := rfl
    simp [t__law_some, sti, ES, SS, l1]
  have fa := fo_at (gl := gls) (F := callK gls ds (k+1)) (t := sti t__law_some 1) (e := ES pool m none) (s := SS p pool []) (s' := SS p pool []) (vs := (List.range m).map fun (j : Nat) => Vl.p (PyData.int (j : Int))) ⟨_, _, _, _, rfl⟩ (by
    simp [t__law_some, sti, foi, ES, rg, Function.comp_def])
  simp only [es0] at hr
  rw [e0] at hr
  simp only [s_cons_s] at hr
  have h1' : forL (sem gls (callK gls ds (k+1)) (fot (sti t__law_some 1))).k (sem gls (callK gls ds (k+1)) (fob (sti t__law_some 1))).s ((List.range m).map fun (j : Nat) => Vl.p (PyData.int (j : Int))) (ES pool m none) (SS p pool []) = _ := h1
  rw [b0, th_nx, fa, h1', th_nx] at hr
  simp [t__law_some, sti, ES] at hr
  exact ⟨q, rs, fs, h2, h3, h4, hr.symm⟩
theorem w_some (k N : Nat) (p : Pot) (g : Gp N p) (hN : N < 900000) (pool : List Int) (hp : pool.length ≤ 100) :
    ∃ (q : Pot) (fs : List Int), Gp (N + pool.length) q ∧ fs.Perm pool ∧ ∀ (n : Nat) (s : Sr), s[n]? = some p.o → callW (callK gls ds (k+2) 21) false [.r n, .p (.list (pool.map .int)), .p (.int (pool.length : Nat))] s = .ok (.p (.list (fs.map .int))) (s.set n q.o) := by
  obtain ⟨q, rs, fs, g2, h1, h2, h3⟩ := c_some k N p g hN pool pool.length (Nat.le_refl _) hp
  have hl := h2.length_eq
  rw [List.length_append] at hl
  have : rs = [] := List.eq_nil_of_length_eq_zero (by omega)
  subst this
  rw [List.append_nil] at h2
  refine ⟨q, fs, g2, h2, fun n s hs => ?_⟩
  have po := plain_o p
  simp [callW, refs, inArgs, hs, po, h3, back, SS]
end K69
end
section
set_option linter.all false
set_option maxRecDepth 100000
set_option maxHeartbeats 2000000
namespace K69
open PySem Mi
/-! facts for the lap -/
noncomputable def exB (es : List Int) : Bool := @decide (Ex es) (Classical.propDecidable _)
theorem exB_iff {es : List Int} : exB es = true ↔ Ex es := by unfold exB; exact @decide_eq_true_iff (Ex es) (Classical.propDecidable _)
theorem exB_no {es : List Int} : exB es = false ↔ ¬ Ex es := by rw [← exB_iff, Bool.not_eq_true]
theorem rk_small {es : List Int} (hl : 1 ≤ es.length ∧ es.length ≤ 5) (hb : ∀ e ∈ es, 1 ≤ e ∧ e ≤ 16) : Rk es :=
  ⟨⟨fun e he => by have := hb e he; omega, by omega⟩, .inl ⟨hl.2, fun e he => (hb e he).2⟩⟩
structure Ev (es : List Int) : Prop where
  b : ∀ e ∈ es, 1 ≤ e ∧ e ≤ 12
  l : 1 ≤ es.length ∧ es.length ≤ 4
theorem Ev.ok {es : List Int} (h : Ev es) : Ok es := ⟨fun e he => by have := h.b e he; omega, by have := h.l; omega⟩
theorem Ev.rk {es : List Int} (h : Ev es) : Rk es := rk_small (by have := h.l; omega) fun e he => by have := h.b e he; omega
theorem no_load {es : List Int} (h : Ok es) (g : Ex es) : ¬ (tb es).2 < (tb es).1 := by
  have := ldf_le h g
  have e : tb es = ldf (es.map Int.toNat) := rfl
  rw [e]; omega
theorem TR.hd {es : List Int} (h : Ok es) {v : P} (t : TR es v) : ∃ y : P, (∀ s, ixV (.p v) (.p (.int 0)) s = .ok (.p y) s) ∧ cmpP .Eq y (.str "begin") = some (exB es) ∧ cmpP .NotEq y (.str "begin") = some (!exB es) := by
  have nl : ¬ (Str.ofString "load" = Str.ofString "begin") := by decide +kernel
  cases t with
  | beg bs b a hh =>
    have : exB es = true := exB_iff.mpr (ex_of b a)
    rw [this]
    exact ⟨.str "begin", fun s => rfl, by simp, by simp⟩
  | load hh =>
    have : exB es = false := exB_no.mpr fun g => no_load h g hh
    rw [this]
    exact ⟨.str "load", fun s => rfl, by simp [nl], by simp [nl]⟩
  | oth w rest hw no hh =>
    have : exB es = false := exB_no.mpr no
    rw [this]
    have ix : ∀ s, ixV (.p (.tuple (.str w :: rest))) (.p (.int 0)) s = .ok (.p (.str w)) s := fun s => by
      rw [show (0 : Int) = ((0 : Nat) : Int) from rfl, ixV_t, at_nat (by simp)]
      rfl
    exact ⟨.str w, ix, by simp [hw], by simp [hw]⟩
theorem TR.bg {es : List Int} (h : Ok es) {v : P} (t : TR es v) (g : Ex es) : ∃ bs, v = .tuple [.str "begin", wsT bs] ∧ Bg es bs ∧ Apart es bs := by
  cases t with
  | beg bs b a hh => exact ⟨bs, rfl, b, a⟩
  | load hh => exact absurd hh (no_load h g)
  | oth w rest hw no hh => exact absurd g no
theorem zip_ps (ps : List Pr) : (ps.map (·.1)).zip (ps.map (·.2)) = ps := by
  induction ps with
  | nil => rfl
  | cons p r ih => simp [ih]
theorem good_bg {ps : List Pr} (g : Good ps) : Bg (ps.map (·.2)) (ps.map (·.1)) ∧ Apart (ps.map (·.2)) (ps.map (·.1)) := by
  refine ⟨⟨by simp, ?_⟩, ?_⟩
  · rw [zip_ps]; exact g.1
  · unfold Apart; rw [zip_ps]; exact g.2
/-- moved on -/
def mvL (t : Int) (es bs : List Int) : List Int := (bs.zip es).map fun q => (q.1 + t) % q.2
theorem mv_zip {t : Int} {es bs : List Int} (hl : bs.length = es.length) : (mvL t es bs).zip es = (bs.zip es).map (mv t) := by
  have e : ((bs.zip es).map (mv t)).map (·.2) = es := by
    rw [List.map_map]
    show (bs.zip es).map (·.2) = es
    rw [List.map_snd_zip]
    omega
  have e1 : ((bs.zip es).map (mv t)).map (·.1) = mvL t es bs := by rw [List.map_map]; rfl
  have := zip_ps ((bs.zip es).map (mv t))
  rw [e, e1] at this
  exact this
theorem mvL_len {t : Int} {es bs : List Int} (hl : bs.length = es.length) : (mvL t es bs).length = es.length := by unfold mvL; simp; omega
theorem mvL_bg {t : Int} {es bs : List Int} (b : Bg es bs) : Bg es (mvL t es bs) := by
  refine ⟨mvL_len b.1, fun q hq => ?_⟩
  rw [mv_zip b.1] at hq
  obtain ⟨p, hp, rfl⟩ := List.mem_map.mp hq
  have := b.2 p hp
  exact ⟨Int.emod_nonneg _ (by omega), Int.emod_lt_of_pos _ (by omega)⟩
theorem mvL_apart {t : Int} {es bs : List Int} (b : Bg es bs) : Apart es (mvL t es bs) ↔ Apart es bs := by
  unfold Apart
  rw [mv_zip b.1, List.pairwise_map]
  have pos : ∀ p ∈ bs.zip es, 0 < p.2 := fun p hp => by have := b.2 p hp; omega
  constructor
  · intro h
    exact h.imp_of_mem fun ha hb h c => h ((M_mv (pos _ ha) (pos _ hb)).mpr c)
  · intro h
    exact h.imp_of_mem fun ha hb h c => h ((M_mv (pos _ ha) (pos _ hb)).mp c)
/-- in another sequence -/
theorem ex_order {es : List Int} {fs : List Int} (p : fs.Perm ((List.range es.length).map fun (j : Nat) => (j : Int))) : (fs.map fun i => es.getD i.toNat 0).Perm es := by
  refine (p.map _).trans ?_
  rw [List.map_map]
  have : (List.range es.length).map ((fun i : Int => es.getD i.toNat 0) ∘ fun (j : Nat) => (j : Int)) = es := by
    apply List.ext_getElem (by simp)
    intro i h1 h2
    rw [List.getElem_map, List.getElem_range]
    simp only [Function.comp, Int.toNat_natCast]
    exact gd h2
  rw [this]
theorem exB_perm {es es' : List Int} (p : es.Perm es') : exB es = exB es' := by
  cases h : exB es' with
  | true => exact exB_iff.mpr ((exB_iff.mp h).perm p.symm)
  | false => exact exB_no.mpr fun g => exB_no.mp h (g.perm p)
theorem Ex.sub {es es' : List Int} (h : es'.Sublist es) (g : Ex es) : Ex es' := by
  obtain ⟨ps, e, g⟩ := g
  rw [← e] at h
  obtain ⟨qs, h1, h2⟩ := List.sublist_map_iff.mp h
  exact ⟨qs, h2.symm, g.sub h1⟩
theorem split_at {es bs : List Int} {a : Nat} (hl : bs.length = es.length) (ha : a < es.length) : bs.zip es = (bs.zip es).take a ++ (bs.getD a 0, es.getD a 0) :: (bs.zip es).drop (a + 1) := by
  have h : a < (bs.zip es).length := by simp; omega
  conv => lhs; rw [← List.take_append_drop a (bs.zip es), List.drop_eq_getElem_cons h]
  rw [List.getElem_zip, gd ha, gd (by omega)]
theorem sub_less {es : List Int} {a : Nat} : (es.take a ++ es.drop (a + 1)).Sublist es := by
  conv => rhs; rw [← List.take_append_drop a es]
  refine List.Sublist.append (List.Sublist.refl _) ?_
  rw [← List.drop_drop]
  exact List.drop_sublist _ _
theorem half_ok {es bs : List Int} {a : Nat} (b : Bg es bs) (p : Apart es bs) (ha : a < es.length) : Bg (es.take a ++ (2 * es.getD a 0) :: es.drop (a + 1)) bs ∧ Apart (es.take a ++ (2 * es.getD a 0) :: es.drop (a + 1)) bs := by
  obtain ⟨g, e⟩ := good_of b p
  have sp := split_at b.1 ha
  have e1 : (bs.zip es).map (·.1) = bs := by rw [List.map_fst_zip]; exact Nat.le_of_eq b.1
  rw [sp] at g
  have g2 := good_bg g.half
  have q2 : ((bs.zip es).take a ++ (bs.getD a 0, 2 * es.getD a 0) :: (bs.zip es).drop (a + 1)).map (·.2) = es.take a ++ (2 * es.getD a 0) :: es.drop (a + 1) := by
    rw [List.map_append, List.map_cons, List.map_take, List.map_drop, e]
  have q1 : ((bs.zip es).take a ++ (bs.getD a 0, 2 * es.getD a 0) :: (bs.zip es).drop (a + 1)).map (·.1) = bs := by
    have := congrArg (List.map (·.1)) sp
    rw [e1] at this
    rw [List.map_append, List.map_cons] at this ⊢
    exact this.symm
  rw [q1, q2] at g2
  exact g2
theorem two_ok {es bs : List Int} {a : Nat} (b : Bg es bs) (p : Apart es bs) (ha : a < es.length) : Bg (es.take a ++ (2 * es.getD a 0) :: es.drop (a + 1) ++ [2 * es.getD a 0]) (bs ++ [bs.getD a 0 + es.getD a 0]) ∧ Apart (es.take a ++ (2 * es.getD a 0) :: es.drop (a + 1) ++ [2 * es.getD a 0]) (bs ++ [bs.getD a 0 + es.getD a 0]) := by
  obtain ⟨g, e⟩ := good_of b p
  have sp := split_at b.1 ha
  have e1 : (bs.zip es).map (·.1) = bs := by rw [List.map_fst_zip]; exact Nat.le_of_eq b.1
  rw [sp] at g
  have g2 := good_bg g.two
  have q2 : ((bs.zip es).take a ++ (bs.getD a 0, 2 * es.getD a 0) :: (bs.zip es).drop (a + 1)).map (·.2) = es.take a ++ (2 * es.getD a 0) :: es.drop (a + 1) := by
    rw [List.map_append, List.map_cons, List.map_take, List.map_drop, e]
  have q1 : ((bs.zip es).take a ++ (bs.getD a 0, 2 * es.getD a 0) :: (bs.zip es).drop (a + 1)).map (·.1) = bs := by
    have := congrArg (List.map (·.1)) sp
    rw [e1] at this
    rw [List.map_append, List.map_cons] at this ⊢
    exact this.symm
  have ap : ∀ (X : List Pr) (y : Pr), (X ++ [y]).map (·.2) = X.map (·.2) ++ [y.2] ∧ (X ++ [y]).map (·.1) = X.map (·.1) ++ [y.1] := fun X y => by simp
  rw [(ap _ _).1, (ap _ _).2, q1, q2] at g2
  exact g2
/-! casks of a number's days -/
theorem inc_range : ∀ (l : List Int) (lo : Int), l.Pairwise (· < ·) → (∀ x ∈ l, lo ≤ x ∧ x < lo + l.length) → l = (List.range l.length).map fun (j : Nat) => lo + (j : Int)
  | [], _, _, _ => rfl
  | x :: r, lo, hp, hb => by
    obtain ⟨h1, h2⟩ := List.pairwise_cons.mp hp
    have hx := hb x List.mem_cons_self
    rw [List.length_cons] at hb hx
    have ih := inc_range r (lo + 1) h2 fun y hy => by
      have := hb y (List.mem_cons_of_mem _ hy)
      have := h1 y hy
      push_cast at *
      omega
    have ex : x = lo := by
      cases r with
      | nil => simp at hx; omega
      | cons y s =>
        have h3 := h1 y List.mem_cons_self
        rw [List.length_cons, List.range_succ_eq_map, List.map_cons] at ih
        have := (List.cons.inj ih).1
        simp at this
        omega
    subst ex
    rw [List.length_cons, List.range_succ_eq_map, List.map_cons, List.map_map]
    congr 1
    · simp
    · rw [ih]
      rw [List.length_map, List.length_range]
      apply List.map_congr_left
      intro j _
      simp only [Function.comp]
      push_cast
      omega
theorem ex_full (n : Nat) (hn : 1 ≤ n) : Ex (List.replicate n (n : Int)) := by
  refine ⟨(List.range n).map fun (j : Nat) => ((j : Int), (n : Int)), ?_, ?_, ?_⟩
  · rw [List.map_map]
    apply List.ext_getElem (by simp)
    intro i h1 h2
    simp
  · intro p hp
    obtain ⟨j, hj, rfl⟩ := List.mem_map.mp hp
    have := List.mem_range.mp hj
    simp only; omega
  · rw [List.pairwise_map]
    have : (List.range n).Pairwise (· < ·) := List.pairwise_lt_range
    refine this.imp_of_mem fun {i j} hi hj hij c => ?_
    have hj := List.mem_range.mp hj
    unfold M at c
    have e : cm (n : Int) (n : Int) = n := by unfold cm; simp
    simp only [e] at c
    have := Int.le_of_dvd (a := (n : Int)) (b := (j : Int) - i) (by omega) (by rw [← Int.dvd_neg] at c; rwa [Int.neg_sub] at c)
    omega
theorem full_sorted {n : Nat} {bs : List Int} (hn : 1 ≤ n) (b : Bg (List.replicate n (n : Int)) bs) (a : Apart (List.replicate n (n : Int)) bs) : bs.mergeSort (fun a b => decide (a ≤ b)) = (List.range n).map fun (j : Nat) => (j : Int) := by
  have hl : bs.length = n := by rw [b.1, List.length_replicate]
  have lt : ∀ x ∈ bs, 0 ≤ x ∧ x < n := fun x hx => by
    obtain ⟨i, hi, rfl⟩ := List.getElem_of_mem hx
    have := b.2 (bs[i], (n : Int)) (by
      have h : i < (bs.zip (List.replicate n (n : Int))).length := by simp; omega
      have := List.getElem_mem h
      rw [List.getElem_zip, List.getElem_replicate] at this
      exact this)
    exact this
  have nd : bs.Nodup := by
    unfold Apart at a
    rw [List.pairwise_iff_getElem] at a
    rw [List.nodup_iff_pairwise_ne, List.pairwise_iff_getElem]
    intro i j hi hj hij e
    have := a i j (by simp; omega) (by simp; omega) hij
    rw [List.getElem_zip, List.getElem_zip, List.getElem_replicate, List.getElem_replicate, e] at this
    apply this
    unfold M
    simp
  have pm := List.mergeSort_perm bs (fun a b => decide (a ≤ b))
  have ps : (bs.mergeSort (fun a b => decide (a ≤ b))).Pairwise (fun a b => (decide (a ≤ b)) = true) := List.pairwise_mergeSort (fun a b c h1 h2 => by simp at *; omega) (fun a b => by simp; omega) bs
  have nd2 := pm.nodup_iff.mpr nd
  have lt2 : (bs.mergeSort (fun a b => decide (a ≤ b))).Pairwise (· < ·) := by
    rw [List.nodup_iff_pairwise_ne] at nd2
    exact (ps.and nd2).imp fun {x y} h => by
      have h1 := of_decide_eq_true h.1
      have h2 := h.2
      omega
  have hl2 : (bs.mergeSort (fun a b => decide (a ≤ b))).length = n := by rw [pm.length_eq, hl]
  have := inc_range _ 0 lt2 fun x hx => by
    have := lt x (pm.mem_iff.mp hx)
    rw [hl2]; omega
  rw [this, hl2]
  simp
theorem tb_over : ∀ n : Nat, 1 ≤ n → n ≤ 5 → (tb (List.replicate (n + 1) (n : Int))).2 < (tb (List.replicate (n + 1) (n : Int))).1 := by
  intro n h1 h2
  have : n = 1 ∨ n = 2 ∨ n = 3 ∨ n = 4 ∨ n = 5 := by omega
  rcases this with rfl | rfl | rfl | rfl | rfl <;> decide +kernel
/-! powers of two -/
def Pw (ps : List Int) : Prop := (1 ≤ ps.length ∧ ps.length ≤ 4) ∧ ∀ x ∈ ps, x = 2 ∨ x = 4 ∨ x = 8 ∨ x = 16
def brev (n : Nat) : Nat := n % 2 * 8 + n / 2 % 2 * 4 + n / 4 % 2 * 2 + n / 8 % 2
def before (l : List Nat) (i : Nat) : Nat := ((List.range l.length).map fun j => if l.getD j 0 < l.getD i 0 ∨ (l.getD j 0 = l.getD i 0 ∧ j < i) then 16 / l.getD j 0 else 0).sum
def wit (l : List Nat) : List Pr := (List.range l.length).map fun i => (((brev (before l i)) : Int), (l.getD i 0 : Int))
instance (ps : List Pr) : Decidable (Good ps) := inferInstanceAs (Decidable ((∀ p ∈ ps, 0 ≤ p.1 ∧ p.1 < p.2) ∧ ps.Pairwise (fun p q => ¬ M p q)))
def all4 : List (List Nat) := [[]] ++ [2,4,8,16].map (fun a => [a]) ++ ([2,4,8,16].flatMap fun a => [2,4,8,16].map fun b => [a, b]) ++ ([2,4,8,16].flatMap fun a => [2,4,8,16].flatMap fun b => [2,4,8,16].map fun c => [a, b, c]) ++ ([2,4,8,16].flatMap fun a => [2,4,8,16].flatMap fun b => [2,4,8,16].flatMap fun c => [2,4,8,16].map fun d => [a, b, c, d])
theorem kraft0 : all4.all (fun l => decide (16 < ld 16 l) || decide (Good (wit l))) = true := by decide +kernel
theorem wit_snd (l : List Nat) : (wit l).map (·.2) = l.map fun (x : Nat) => (x : Int) := by
  unfold wit
  rw [List.map_map]
  apply List.ext_getElem (by simp)
  intro i h1 h2
  simp only [List.getElem_map, List.getElem_range, Function.comp]
  rw [gdN (by simpa using h2)]
theorem in_all4 {l : List Nat} (hl : l.length ≤ 4) (h : ∀ x ∈ l, x = 2 ∨ x = 4 ∨ x = 8 ∨ x = 16) : l ∈ all4 := by
  have m : ∀ {x : Nat}, (x = 2 ∨ x = 4 ∨ x = 8 ∨ x = 16) → x ∈ [2, 4, 8, 16] := fun h => by simpa using h
  unfold all4
  match l, hl, h with
  | [], _, _ => simp
  | [a], _, h =>
    have ha := m (h a (by simp))
    refine List.mem_append_left _ (List.mem_append_left _ (List.mem_append_left _ (List.mem_append_right _ ?_)))
    exact List.mem_map.mpr ⟨a, ha, rfl⟩
  | [a, b], _, h =>
    have ha := m (h a (by simp))
    have hb := m (h b (by simp))
    refine List.mem_append_left _ (List.mem_append_left _ (List.mem_append_right _ ?_))
    exact List.mem_flatMap.mpr ⟨a, ha, List.mem_map.mpr ⟨b, hb, rfl⟩⟩
  | [a, b, c], _, h =>
    have ha := m (h a (by simp))
    have hb := m (h b (by simp))
    have hc := m (h c (by simp))
    refine List.mem_append_left _ (List.mem_append_right _ ?_)
    exact List.mem_flatMap.mpr ⟨a, ha, List.mem_flatMap.mpr ⟨b, hb, List.mem_map.mpr ⟨c, hc, rfl⟩⟩⟩
  | [a, b, c, d], _, h =>
    have ha := m (h a (by simp))
    have hb := m (h b (by simp))
    have hc := m (h c (by simp))
    have hd := m (h d (by simp))
    refine List.mem_append_right _ ?_
    exact List.mem_flatMap.mpr ⟨a, ha, List.mem_flatMap.mpr ⟨b, hb, List.mem_flatMap.mpr ⟨c, hc, List.mem_map.mpr ⟨d, hd, rfl⟩⟩⟩⟩
theorem Pw.ok {ps : List Int} (h : Pw ps) : Ok ps := ⟨fun e he => by have := h.2 e he; omega, by have := h.1; omega⟩
theorem Pw.rk {ps : List Int} (h : Pw ps) : Rk ps := rk_small (by have := h.1; omega) fun e he => by have := h.2 e he; omega
def ldP (ps : List Int) : Nat := ld 16 (ps.map Int.toNat)
theorem Pw.load {ps : List Int} (h : Pw ps) : Ex ps ↔ ldP ps ≤ 16 := by
  have hn : ∀ x ∈ ps.map Int.toNat, x = 2 ∨ x = 4 ∨ x = 8 ∨ x = 16 := fun x hx => by
    obtain ⟨y, hy, rfl⟩ := List.mem_map.mp hx
    have := h.2 y hy
    omega
  have back : (ps.map Int.toNat).map (fun (x : Nat) => (x : Int)) = ps := by
    rw [List.map_map]
    conv => rhs; rw [← List.map_id ps]
    apply List.map_congr_left
    intro x hx
    have := h.2 x hx
    simp only [Function.comp, id]
    omega
  constructor
  · rintro ⟨qs, e, g⟩
    have e2 : qs.map (fun p => p.2.toNat) = ps.map Int.toNat := by rw [← e, List.map_map]; rfl
    have := ld_le g 16 fun p hp => by
      have hm : p.2.toNat ∈ ps.map Int.toNat := by rw [← e2]; exact List.mem_map.mpr ⟨p, hp, rfl⟩
      rcases hn _ hm with q | q | q | q <;> rw [q] <;> decide
    rw [e2] at this
    exact this
  · intro hl
    have m := in_all4 (by rw [List.length_map]; exact h.1.2) hn
    have k := List.all_eq_true.mp kraft0 _ m
    rw [Bool.or_eq_true] at k
    rcases k with k | k
    · have := of_decide_eq_true k
      unfold ldP at hl
      omega
    · exact ⟨_, by rw [wit_snd, back], of_decide_eq_true k⟩
theorem Pw.over {ps : List Int} (h : Pw ps) : (tb ps).2 < (tb ps).1 ↔ ¬ Ex ps := by
  rw [h.load]
  have hd : ∀ d ∈ ps.map Int.toNat, 1 ≤ d ∧ d ≤ 24 := fun x hx => by
    obtain ⟨y, hy, rfl⟩ := List.mem_map.mp hx
    have := h.2 y hy
    omega
  have h16 : ∀ d ∈ ps.map Int.toNat, d ∣ 16 := fun x hx => by
    obtain ⟨y, hy, rfl⟩ := List.mem_map.mp hx
    rcases h.2 y hy with q | q | q | q <;> rw [q] <;> decide
  obtain ⟨l1, _, l3⟩ := ldf_ok _ hd
  have l3 := l3 16 h16
  have e : tb ps = ldf (ps.map Int.toNat) := rfl
  have e2 : ldP ps = ld 16 (ps.map Int.toNat) := rfl
  rw [← e, ← e2] at l3
  rw [← e] at l1
  generalize tb ps = q at *
  obtain ⟨t, b⟩ := q
  simp only at *
  constructor
  · intro hlt hle
    have : b * ldP ps ≤ b * 16 := Nat.mul_le_mul_left _ hle
    omega
  · intro hlt
    have : b * 17 ≤ b * ldP ps := Nat.mul_le_mul_left _ (by omega)
    omega
end K69
end
section
set_option linter.all false
set_option maxRecDepth 100000
set_option maxHeartbeats 2000000
namespace K69
open PySem Mi
/-! the lap, statement by statement (printed by g69.py) -/
def bdy : Mi.T := fob (sti t__law_right 0)
theorem nb (b : Bool) : cmpP .NotEq (.bool b) (.bool b) = some false := by rw [neb]; cases b <;> rfl
@[simp] theorem isnTT : cmpP .IsNot (.bool true) (.bool true) = some false := rfl
theorem ys_ints {Q : Int → Prop} : ∀ ys : List P, (∀ y ∈ ys, ∃ w, y = .int w ∧ Q w) → ∃ ws : List Int, ys = ws.map .int ∧ ∀ w ∈ ws, Q w
  | [], _ => ⟨[], rfl, by simp⟩
  | y :: ys, h => by
    obtain ⟨w, rfl, hw⟩ := h y List.mem_cons_self
    obtain ⟨ws, rfl, hws⟩ := ys_ints ys fun z hz => h z (List.mem_cons_of_mem _ hz)
    exact ⟨w :: ws, rfl, fun x hx => by
      rcases List.mem_cons.mp hx with rfl | hx
      · exact hw
      · exact hws x hx⟩
theorem addW {a b : List Int} (h : a.length + b.length ≤ 1000) : binP .Add (wsT a) (wsT b) = some (wsT (a ++ b)) := by
  unfold wsT
  rw [addT (by simp; unfold lim; omega), List.map_append]
theorem slA (l : List Int) (a : Nat) : slP (wsT l) none (some (a : Int)) = some (wsT (l.take a)) := by simp [slP, wsT, cut_take]
theorem slB (l : List Int) (a : Nat) : slP (wsT l) (some ((a : Int) + 1)) none = some (wsT (l.drop (a + 1))) := by
  rw [show (a : Int) + 1 = ((a + 1 : Nat) : Int) by omega]
  simp only [slP, wsT, cut_drop, List.map_drop]
theorem neW0 (l : List Int) : cmpP .NotEq (wsT l) (wsT []) = some (!decide (l = [])) := by
  have h : cmpP .NotEq (wsT l) (wsT []) = some (!PyData.eqv (wsT l) (wsT [])) := by
    have s1 := sh_tup (ns := l)
    have s2 := sh_tup (ns := ([] : List Int))
    simp only [wsT, cmpP, s1, s2, Bool.and_self, if_true]
  rw [h]
  cases l <;> simp [wsT, PyData.eqv, PyData.eqvAll]
noncomputable def apB (es bs : List Int) : Bool := @decide (Apart es bs) (Classical.propDecidable _)
theorem apB_iff {es bs : List Int} : apB es bs = true ↔ Apart es bs := by unfold apB; exact @decide_eq_true_iff _ (Classical.propDecidable _)
theorem apB_no {es bs : List Int} : apB es bs = false ↔ ¬ Apart es bs := by rw [← apB_iff, Bool.not_eq_true]
theorem apB_mv {t : Int} {es bs : List Int} (b : Bg es bs) : apB es (mvL t es bs) = apB es bs := by
  cases h : apB es bs with
  | true => exact apB_iff.mpr ((mvL_apart b).mpr (apB_iff.mp h))
  | false => exact apB_no.mpr fun c => apB_no.mp h ((mvL_apart b).mp c)
theorem w_fm (k : Nat) (es bs : List Int) (h : Ok es) (b : Bg es bs) : ∃ v, (∀ s, callW (callK gls ds (k+5) 8) false [.p (wsT es), .p (wsT bs)] s = .ok (.p v) s) ∧ cmpP .IsNot v .none = some (!apB es bs) ∧ cmpP .Is v .none = some (apB es bs) := by
  obtain ⟨v, hv, st1, c1⟩ := c_first k es bs h b
  refine ⟨v, fun s => callW_p2 c1, ?_⟩
  rcases hv with ⟨rfl, a⟩ | ⟨⟨xs, rfl⟩, a⟩
  · rw [apB_iff.mpr a]; exact ⟨rfl, rfl⟩
  · rw [apB_no.mpr a]; exact ⟨rfl, rfl⟩
theorem w_lm (k : Nat) (es bs : List Int) (h : Ok es) (b : Bg es bs) : ∀ s, callW (callK gls ds (k+2) 23) false [.p (wsT es), .p (wsT bs)] s = .ok (.p (.bool (!apB es bs))) s := by
  obtain ⟨c, hc, st1, c1⟩ := c_lmeet k es bs h b.1
  have e : c = !apB es bs := by
    cases c with
    | true => rw [apB_no.mpr fun q => by have := hc.mpr q; cases this]; rfl
    | false => rw [apB_iff.mpr (hc.mp rfl)]; rfl
  rw [← e]
  exact fun s => callW_p2 c1
theorem cpL_sti {tg : Vl → En → Sr → X} {cond : En → Sr → R Bool} {elt : En → Sr → R Vl} {e : En} (I : Nat → Sr → Prop) (Q : Nat → P → Prop) : ∀ (vs : List Vl) (k : Nat) (s : Sr), I k s → (∀ j v s, vs[j]? = some v → I (k + j) s → ∃ e', tg v e s = .nx e' s ∧ cond e' s = .ok true s ∧ ∃ y s', elt e' s = .ok (.p y) s' ∧ Q j y ∧ I (k + j + 1) s') →
    ∃ ys s', cpL tg cond elt e vs s = .ok ys s' ∧ ys.length = vs.length ∧ (∀ i y, ys[i]? = some y → Q i y) ∧ I (k + vs.length) s'
  | [], k, s, h, _ => ⟨[], s, rfl, rfl, fun i y hy => by simp at hy, h⟩
  | v :: vs, k, s, h, st => by
    obtain ⟨e', h1, h2, y, s1, h3, h4, h5⟩ := st 0 v s rfl h
    obtain ⟨ys, s', h6, h7, h8, h9⟩ := cpL_sti I (fun j => Q (j + 1)) vs (k + 1) s1 h5 fun j w s hw hi => by
      have := st (j + 1) w s hw (by rw [show k + (j + 1) = k + 1 + j by omega]; exact hi)
      rw [show k + 1 + j + 1 = k + (j + 1) + 1 by omega]
      exact this
    refine ⟨y :: ys, s', ?_, by simp [h7], fun i z hz => ?_, by rw [List.length_cons, show k + (vs.length + 1) = k + 1 + vs.length by omega]; exact h9⟩
    · simp only [cpL, h1, h2, h3, toP_p, h6]
    · cases i with
      | zero => simp at hz; subst hz; exact h4
      | succ i => exact h8 i z (by simpa using hz)
theorem b0 (k : Nat)  (N : Nat) (p0 : Pot) (g : Gp N p0) (hN : N < 800000) (G : Sr) (x1 x2 x3 x4 x5 x6 x7 x8 x9 x10 x11 x12 x13 x14 x15 x16 x17 x18 x19 x20 : Option Vl) : ∃ st q, (st = 1 ∨ st = 2 ∨ st = 3) ∧ Gp (N + 1) q ∧ (sem gls (callK gls ds (k+6)) (sti bdy 0)).s [some (.r 0), x1, x2, x3, x4, x5, x6, x7, x8, x9, x10, x11, x12, x13, x14, x15, x16, x17, x18, x19, x20] (p0.o :: G) = .nx [some (.r 0), x1, some (.p (.int st)), x3, x4, x5, x6, x7, x8, x9, x10, x11, x12, x13, x14, x15, x16, x17, x18, x19, x20] (q.o :: G) := by
  obtain ⟨i, q, hi, g1, w1⟩ := w_of (k+4) N p0 [.int 1, .int 2, .int 2, .int 3] g (by omega) (by simp)
  have f1 := fun m => w1 0 (p0.o :: G) m rfl
  simp at f1
  have l4 : ∀ s : Sr, mkLstV false [Vl.p (.int 1), .p (.int 2), .p (.int 2), .p (.int 3)] s = .ok (.p (.list [.int 1, .int 2, .int 2, .int 3])) s := fun s => mkLstV_ps (xs := [.int 1, .int 2, .int 2, .int 3]) (by decide)
  obtain ⟨st, hp, e⟩ : ∃ st : Int, (st = 1 ∨ st = 2 ∨ st = 3) ∧ [PyData.int 1, .int 2, .int 2, .int 3][i] = .int st := by
    simp at hi
    match i, hi with
    | 0, _ => exact ⟨1, by omega, rfl⟩
    | 1, _ => exact ⟨2, by omega, rfl⟩
    | 2, _ => exact ⟨2, by omega, rfl⟩
    | 3, _ => exact ⟨3, by omega, rfl⟩
  refine ⟨st, q, hp, g1, ?_⟩
  simp only [e] at f1
  simp [bdy, t__law_right, sti, fob, l4, f1]
theorem b1 (k : Nat) (st : Int) (hst : st = 1 ∨ st = 2 ∨ st = 3) (N : Nat) (p0 : Pot) (g : Gp N p0) (hN : N < 800000) (G : Sr) (x1 x3 x4 x5 x6 x7 x8 x9 x10 x11 x12 x13 x14 x15 x16 x17 x18 x19 x20 : Option Vl) : ∃ es q, Ev es ∧ Gp (N + 5) q ∧ (sem gls (callK gls ds (k+6)) (sti bdy 1)).s [some (.r 0), x1, some (.p (.int st)), x3, x4, x5, x6, x7, x8, x9, x10, x11, x12, x13, x14, x15, x16, x17, x18, x19, x20] (p0.o :: G) = .nx [some (.r 0), x1, some (.p (.int st)), x3, some (.p (wsT es)), x5, x6, x7, x8, x9, x10, x11, x12, x13, x14, x15, x16, x17, x18, x19, x20] (q.o :: G) := by
  obtain ⟨d1, q1, d10, d11, g1, w1⟩ := w_take (k+5) _ p0 4 g (by omega) (by omega)
  have f1 := fun m => w1 0 (p0.o :: G) m rfl
  simp at f1
  obtain ⟨n, hn⟩ : ∃ n : Nat, 1 + d1 = (n : Int) := ⟨(1 + d1).toNat, by omega⟩
  have rg := rg_1 (n : Int) (by omega)
  rw [Int.toNat_natCast] at rg
  have rl : ((List.range n).map fun (j : Nat) => Vl.p (PyData.int (j : Int))).length ≤ lim := by simp; unfold lim; omega
  obtain ⟨u, hu1, hu2, ofb, hu4⟩ : ∃ u : Int, 1 ≤ u ∧ u ≤ 12 ∧ binP .FloorDiv (.int 12) (.int st) = some (.int u) ∧ ∀ d : Int, 0 ≤ d → d < u → binP .Mult (.int st) (.int (1 + d)) = some (.int (st * (1 + d))) ∧ 1 ≤ st * (1 + d) ∧ st * (1 + d) ≤ 12 := by
    have m : ∀ d : Int, binP .Mult (.int st) (.int (1 + d)) = some (.int (st * (1 + d))) := fun d => muL_ok (by omega)
    rcases hst with rfl | rfl | rfl
    · exact ⟨12, by omega, by omega, by rw [div_ok (by omega)]; rfl, fun d h1 h2 => ⟨m d, by omega, by omega⟩⟩
    · exact ⟨6, by omega, by omega, by rw [div_ok (by omega)]; rfl, fun d h1 h2 => ⟨m d, by omega, by omega⟩⟩
    · exact ⟨4, by omega, by omega, by rw [div_ok (by omega)]; rfl, fun d h1 h2 => ⟨m d, by omega, by omega⟩⟩
  obtain ⟨ys, s', c1, c2, c3, q, rfl, c5⟩ := cpL_sti (tg := kV 3) (cond := cnd (sem gls (callK gls ds (k+6)) .nil)) (elt := (sem gls (callK gls ds (k+6)) (match sti bdy 1 with | .as _ (.bi _ _ (.cons (.cp _ x _ _ _ _ _ _) _) _ _) _ => x | t => t)).e) (e := [some (.r 0), x1, some (.p (.int st)), none, x4, x5, x6, x7, x8, x9, x10, x11, x12, x13, x14, x15, x16, x17, x18, x19, x20])
    (fun j s => ∃ q : Pot, s = q.o :: G ∧ Gp (N + 1 + j) q) (fun j y => ∃ w, y = .int w ∧ 1 ≤ w ∧ w ≤ 12) ((List.range n).map fun (j : Nat) => Vl.p (PyData.int (j : Int))) 0 (q1.o :: G) ⟨q1, rfl, g1⟩ (by
    rintro j v s hv ⟨q, rfl, hg⟩
    rw [Nat.zero_add] at hg ⊢
    have hj := (rgV hv).1
    obtain ⟨d, q2, d0, d1', g2, w2⟩ := w_take (k+5) _ q u hg (by omega) (by omega)
    have f2 := fun m => w2 0 (q.o :: G) m rfl
    simp at f2
    obtain ⟨m1, m2, m3⟩ := hu4 d d0 d1'
    refine ⟨_, rfl, rfl, .int (st * (1 + d)), q2.o :: G, ?_, ⟨_, rfl, m2, m3⟩, q2, rfl, g2⟩
    simp [bdy, t__law_right, sti, fob, f2, ofb, m1])
  obtain ⟨l, rfl, hl⟩ := ys_ints ys fun y hy => by
    obtain ⟨i, hi, rfl⟩ := List.getElem_of_mem hy
    exact c3 i _ (List.getElem?_eq_getElem hi)
  simp [bdy, t__law_right, sti, fob] at c1
  have c2 : l.length = n := by simpa using c2
  refine ⟨l, q, ⟨hl, by omega⟩, c5.le (by simp; omega), ?_⟩
  simp [bdy, t__law_right, sti, fob, rg, Function.comp_def, cpAll_l rl, wipeE, c1, f1, hn]
  rfl
theorem b2 (k : Nat) (es : List Int) (h : Ev es) (N : Nat) (p0 : Pot) (g : Gp N p0) (hN : N < 800000) (G : Sr) (x1 x2 x3 x5 x6 x7 x8 x9 x10 x11 x12 x13 x14 x15 x16 x17 x18 x19 x20 : Option Vl) : ∃ bs q, Bg es bs ∧ Gp (N + 4) q ∧ (sem gls (callK gls ds (k+6)) (sti bdy 2)).s [some (.r 0), x1, x2, x3, some (.p (wsT es)), x5, x6, x7, x8, x9, x10, x11, x12, x13, x14, x15, x16, x17, x18, x19, x20] (p0.o :: G) = .nx [some (.r 0), x1, x2, x3, some (.p (wsT es)), x5, some (.p (wsT bs)), x7, x8, x9, x10, x11, x12, x13, x14, x15, x16, x17, x18, x19, x20] (q.o :: G) := by
  have rl : (es.map fun (j : Int) => Vl.p (PyData.int j)).length ≤ lim := by have := h.l; simp; unfold lim; omega
  have hle := h.l
  have ofb : True := trivial
  obtain ⟨ys, s', c1, c2, c3, q, rfl, c5⟩ := cpL_sti (tg := kV 5) (cond := cnd (sem gls (callK gls ds (k+6)) .nil)) (elt := (sem gls (callK gls ds (k+6)) (match sti bdy 2 with | .as _ (.bi _ _ (.cons (.cp _ x _ _ _ _ _ _) _) _ _) _ => x | t => t)).e) (e := [some (.r 0), x1, x2, x3, some (.p (wsT es)), none, x6, x7, x8, x9, x10, x11, x12, x13, x14, x15, x16, x17, x18, x19, x20])
    (fun j s => ∃ q : Pot, s = q.o :: G ∧ Gp (N + 0 + j) q) (fun j y => ∃ w, y = .int w ∧ ∃ e, es[j]? = some e ∧ 0 ≤ w ∧ w < e) (es.map fun (j : Int) => Vl.p (PyData.int j)) 0 (p0.o :: G) ⟨p0, rfl, g⟩ (by
    rintro j v s hv ⟨q, rfl, hg⟩
    rw [Nat.zero_add] at hg ⊢
    rw [List.getElem?_map] at hv
    obtain ⟨e, he, rfl⟩ := Option.map_eq_some_iff.mp hv
    have hj := (List.getElem?_eq_some_iff.mp he).1
    have eb := h.b e (List.mem_of_getElem? he)
    obtain ⟨d, q2, d0, d1, g2, w2⟩ := w_take (k+5) _ q e hg (by omega) (by omega)
    have f2 := fun m => w2 0 (q.o :: G) m rfl
    simp at f2
    refine ⟨_, rfl, rfl, .int d, q2.o :: G, ?_, ⟨d, rfl, e, he, d0, d1⟩, q2, rfl, g2⟩
    simp [bdy, t__law_right, sti, fob, f2, ofb])
  obtain ⟨l, rfl, hl⟩ := ys_ints (Q := fun _ => True) ys fun y hy => by
    obtain ⟨i, hi, rfl⟩ := List.getElem_of_mem hy
    obtain ⟨w, e, _⟩ := c3 i _ (List.getElem?_eq_getElem hi)
    exact ⟨w, e, trivial⟩
  simp [bdy, t__law_right, sti, fob] at c1
  have c2 : l.length = es.length := by simpa using c2
  refine ⟨l, q, ⟨c2, fun r hr => ?_⟩, c5.le (by simp; omega), ?_⟩
  · obtain ⟨i, hi, rfl⟩ := List.getElem_of_mem hr
    have hi2 : i < l.length := by simp at hi; omega
    obtain ⟨w, e1, e, e2, e3, e4⟩ := c3 i (.int l[i]) (by rw [List.getElem?_map, List.getElem?_eq_getElem hi2]; rfl)
    cases e1
    rw [List.getElem_zip]
    obtain ⟨_, rfl⟩ := List.getElem?_eq_some_iff.mp e2
    exact ⟨e3, e4⟩
  simp [bdy, t__law_right, sti, fob, Function.comp_def, cpAll_l rl, wipeE, c1]
  rfl
theorem b3 (k : Nat) (es : List Int) (h : Ev es) (bs : List Int) (hb : Bg es bs) : ∀ (p0 : Pot) (G : Sr) (x1 x2 x3 x5 x7 x8 x9 x10 x11 x12 x13 x14 x15 x16 x17 x18 x19 x20 : Option Vl), (sem gls (callK gls ds (k+6)) (sti bdy 3)).s [some (.r 0), x1, x2, x3, some (.p (wsT es)), x5, some (.p (wsT bs)), x7, x8, x9, x10, x11, x12, x13, x14, x15, x16, x17, x18, x19, x20] (p0.o :: G) = .nx [some (.r 0), x1, x2, x3, some (.p (wsT es)), x5, some (.p (wsT bs)), x7, x8, x9, x10, x11, x12, x13, x14, x15, x16, x17, x18, x19, x20] (p0.o :: G) := by
  obtain ⟨v, a1, e1, e2⟩ := w_fm (k+1) es bs h.ok hb
  have a2 := w_lm (k+4) es bs h.ok hb
  intros
  simp [bdy, t__law_right, sti, fob, a1, a2, e1, nb]
theorem b4 (k : Nat)  (N : Nat) (p0 : Pot) (g : Gp N p0) (hN : N < 800000) (G : Sr) (x1 x2 x3 x4 x5 x6 x7 x8 x9 x10 x11 x12 x13 x14 x15 x16 x17 x18 x19 x20 : Option Vl) : ∃ on q, True ∧ Gp (N + 1) q ∧ (sem gls (callK gls ds (k+6)) (sti bdy 4)).s [some (.r 0), x1, x2, x3, x4, x5, x6, x7, x8, x9, x10, x11, x12, x13, x14, x15, x16, x17, x18, x19, x20] (p0.o :: G) = .nx [some (.r 0), x1, x2, x3, x4, x5, x6, some (.p (.int on)), x8, x9, x10, x11, x12, x13, x14, x15, x16, x17, x18, x19, x20] (q.o :: G) := by
  obtain ⟨d1, q1, d10, d11, g1, w1⟩ := w_take (k+5) _ p0 99 g (by omega) (by omega)
  have f1 := fun m => w1 0 (p0.o :: G) m rfl
  simp at f1
  refine ⟨d1, q1, trivial, g1, ?_⟩
  simp [bdy, t__law_right, sti, fob, f1]
theorem b5 (k : Nat) (es : List Int) (h : Ev es) (bs : List Int) (hb : Bg es bs) (on : Int) : ∀ (p0 : Pot) (G : Sr) (x1 x2 x3 x5 x8 x9 x10 x11 x12 x13 x14 x15 x16 x17 x18 x19 x20 : Option Vl), (sem gls (callK gls ds (k+6)) (sti bdy 5)).s [some (.r 0), x1, x2, x3, some (.p (wsT es)), x5, some (.p (wsT bs)), some (.p (.int on)), x8, x9, x10, x11, x12, x13, x14, x15, x16, x17, x18, x19, x20] (p0.o :: G) = .nx [some (.r 0), x1, x2, x3, some (.p (wsT es)), x5, some (.p (wsT bs)), some (.p (.int on)), some (.p (wsT (mvL on es bs))), x9, x10, x11, x12, x13, x14, x15, x16, x17, x18, x19, x20] (p0.o :: G) := by
  have hle := h.l
  have hbl := hb.1
  have zl : ((bs.zip es).map fun q => Vl.p (PyData.tuple [.int q.1, .int q.2])).length ≤ lim := by simp; unfold lim; omega
  intros
  simp [bdy, t__law_right, sti, fob, zpW, cpAll_l zl]
  rw [cpL_map (f := fun v => match v with | .p (.tuple [.int x, .int y]) => .int ((x + on) % y) | _ => .none)]
  · simp [mvL, wsT, Function.comp_def]
  · intro v hv
    obtain ⟨q, hq, rfl⟩ := List.mem_map.mp hv
    have := hb.2 q hq
    have m1 : binP .Mod (.int (q.1 + on)) (.int q.2) = some (.int ((q.1 + on) % q.2)) := b_mod (by omega)
    simp [wipeE, cnt, m1]
theorem b6 (k : Nat) (es : List Int) (h : Ev es) (bs : List Int) (hb : Bg es bs) (on : Int) : ∀ (p0 : Pot) (G : Sr) (x1 x2 x3 x5 x7 x9 x10 x11 x12 x13 x14 x15 x16 x17 x18 x19 x20 : Option Vl), (sem gls (callK gls ds (k+6)) (sti bdy 6)).s [some (.r 0), x1, x2, x3, some (.p (wsT es)), x5, some (.p (wsT bs)), x7, some (.p (wsT (mvL on es bs))), x9, x10, x11, x12, x13, x14, x15, x16, x17, x18, x19, x20] (p0.o :: G) = .nx [some (.r 0), x1, x2, x3, some (.p (wsT es)), x5, some (.p (wsT bs)), x7, some (.p (wsT (mvL on es bs))), x9, x10, x11, x12, x13, x14, x15, x16, x17, x18, x19, x20] (p0.o :: G) := by
  have a1 := w_lm (k+4) es bs h.ok hb
  have a2 := w_lm (k+4) es (mvL on es bs) h.ok (mvL_bg hb)
  rw [apB_mv hb] at a2
  intros
  simp [bdy, t__law_right, sti, fob, a1, a2, nb]
theorem b7 (k : Nat) (es : List Int) (h : Ev es) (bs : List Int) (hb : Bg es bs) (on : Int) : ∀ (p0 : Pot) (G : Sr) (x1 x2 x3 x5 x7 x9 x10 x11 x12 x13 x14 x15 x16 x17 x18 x19 x20 : Option Vl), (sem gls (callK gls ds (k+6)) (sti bdy 7)).s [some (.r 0), x1, x2, x3, some (.p (wsT es)), x5, some (.p (wsT bs)), x7, some (.p (wsT (mvL on es bs))), x9, x10, x11, x12, x13, x14, x15, x16, x17, x18, x19, x20] (p0.o :: G) = .nx [some (.r 0), x1, x2, x3, some (.p (wsT es)), x5, some (.p (wsT bs)), x7, some (.p (wsT (mvL on es bs))), x9, x10, x11, x12, x13, x14, x15, x16, x17, x18, x19, x20] (p0.o :: G) := by
  obtain ⟨v1, a1, e1, e2⟩ := w_fm (k+1) es bs h.ok hb
  obtain ⟨v2, a2, e3, e4⟩ := w_fm (k+1) es (mvL on es bs) h.ok (mvL_bg hb)
  rw [apB_mv hb] at e4
  intros
  simp [bdy, t__law_right, sti, fob, a1, a2, e2, e4, nb]
theorem b8 (k : Nat) (es : List Int) (h : Ev es) : ∃ v, TR es v ∧ ∀ (p0 : Pot) (G : Sr) (x1 x2 x3 x5 x6 x7 x8 x9 x10 x11 x12 x13 x14 x15 x16 x17 x18 x19 x20 : Option Vl), (sem gls (callK gls ds (k+6)) (sti bdy 8)).s [some (.r 0), x1, x2, x3, some (.p (wsT es)), x5, x6, x7, x8, x9, x10, x11, x12, x13, x14, x15, x16, x17, x18, x19, x20] (p0.o :: G) = .nx [some (.r 0), x1, x2, x3, some (.p (wsT es)), x5, x6, x7, x8, some (.p v), x10, x11, x12, x13, x14, x15, x16, x17, x18, x19, x20] (p0.o :: G) := by
  obtain ⟨v, hv, st', h1⟩ := c_racking k es h.rk
  have a1 := fun s => callW_p1 (f := callK gls ds (k+6) 14) (m := false) (s := s) h1
  refine ⟨v, hv, ?_⟩
  intros
  simp [bdy, t__law_right, sti, fob, a1]
theorem b9 (k : Nat) (es : List Int) (h : Ev es) (N : Nat) (p0 : Pot) (g : Gp N p0) (hN : N < 800000) (G : Sr) (x1 x2 x3 x5 x6 x7 x8 x9 x10 x11 x12 x13 x14 x15 x16 x17 x18 x19 x20 : Option Vl) : ∃ fs q, List.Perm (α := Int) fs ((List.range es.length).map fun (j : Nat) => (j : Int)) ∧ Gp (N + 4) q ∧ (sem gls (callK gls ds (k+6)) (sti bdy 9)).s [some (.r 0), x1, x2, x3, some (.p (wsT es)), x5, x6, x7, x8, x9, x10, x11, x12, x13, x14, x15, x16, x17, x18, x19, x20] (p0.o :: G) = .nx [some (.r 0), x1, x2, x3, some (.p (wsT es)), x5, x6, x7, x8, x9, x10, some (.p (.list (List.map PyData.int fs))), x12, x13, x14, x15, x16, x17, x18, x19, x20] (q.o :: G) := by
  have hle := h.l
  obtain ⟨q, fs, g1, pf, w1⟩ := w_some (k+4) N p0 g (by omega) ((List.range es.length).map fun (j : Nat) => (j : Int)) (by simp; omega)
  have f1 := w1 0 (p0.o :: G) rfl
  rw [List.length_map, List.length_range, List.map_map] at f1
  have fl := pf.length_eq
  rw [List.length_map, List.length_range] at fl
  have l1 := lrgP_1 es.length (by omega)
  rw [rng_eq] at l1
  have rl : (fs.map (Vl.p ∘ PyData.int)).length ≤ lim := by simp; unfold lim; omega
  refine ⟨fs, q, pf, g1.le (by simp; omega), ?_⟩
  have e0 : (PyData.int ∘ fun (j : Nat) => (j : Int)) = fun (j : Nat) => PyData.int (0 + (j : Int)) := by funext j; simp
  rw [e0] at f1
  simp [bdy, t__law_right, sti, fob, l1]
  simp at f1
  simp [f1, cpAll_l rl]
  rw [cpL_map (f := fun v => match v with | .p x => x | _ => .none)]
  · simp [Function.comp_def]
  · intro v hv
    obtain ⟨x, hx, rfl⟩ := List.mem_map.mp hv
    simp [wipeE]
theorem b10 (k : Nat) (es : List Int) (h : Ev es) (v : P) (hv : TR es v) (fs : List Int) (hf : fs.Perm ((List.range es.length).map fun (j : Nat) => (j : Int))) : ∀ (p0 : Pot) (G : Sr) (x1 x2 x3 x5 x6 x7 x8 x10 x12 x13 x14 x15 x16 x17 x18 x19 x20 : Option Vl), (sem gls (callK gls ds (k+6)) (sti bdy 10)).s [some (.r 0), x1, x2, x3, some (.p (wsT es)), x5, x6, x7, x8, some (.p v), x10, some (.p (.list (List.map PyData.int fs))), x12, x13, x14, x15, x16, x17, x18, x19, x20] (p0.o :: G) = .nx [some (.r 0), x1, x2, x3, some (.p (wsT es)), x5, x6, x7, x8, some (.p v), x10, some (.p (.list (List.map PyData.int fs))), x12, x13, x14, x15, x16, x17, x18, x19, x20] (p0.o :: G) := by
  have hle := h.l
  have pe := ex_order hf
  have hl := pe.length_eq
  rw [List.length_map] at hl
  have rk2 : Rk (fs.map fun i => es.getD i.toNat 0) := rk_small (by rw [List.length_map]; omega) fun e he => by have := h.b e (pe.mem_iff.mp he); omega
  obtain ⟨v2, hv2, st', h1⟩ := c_racking k _ rk2
  have a1 := fun s => callW_p1 (f := callK gls ds (k+6) 14) (m := false) (s := s) h1
  obtain ⟨y2, i2, e2, _⟩ := hv2.hd rk2.1
  obtain ⟨y1, i1, e1, _⟩ := hv.hd h.ok
  rw [exB_perm pe] at e2
  have rl : (fs.map fun (j : Int) => Vl.p (PyData.int j)).length ≤ lim := by simp; unfold lim; omega
  intros
  simp [bdy, t__law_right, sti, fob, Function.comp_def, cpAll_l rl]
  rw [cpL_map (f := fun v => match v with | .p (.int i) => .int (es.getD i.toNat 0) | _ => .none)]
  · have fz : biP .tuple [.list (fs.map fun i => PyData.int (es.getD i.toNat 0))] = some (wsT (fs.map fun i => es.getD i.toNat 0)) := by
      simp [wsT, Function.comp_def]
    simp only [List.map_map, Function.comp_def, bd_ok, mkLst_f]
    simp [fz, a1, i1, i2, e1, e2, nb, -List.getD_eq_getElem?_getD]
  · intro v hv
    obtain ⟨x, hx, rfl⟩ := List.mem_map.mp hv
    obtain ⟨j, hj, rfl⟩ := List.mem_map.mp (hf.mem_iff.mp hx)
    have hj := List.mem_range.mp hj
    have ix := atD (l := es) hj
    simp [wipeE, ix, -List.getD_eq_getElem?_getD]
theorem b11t (k : Nat) (es : List Int) (h : Ev es) (v : P) (hv : TR es v) (hx : exB es = true) : ∀ (p0 : Pot) (G : Sr) (x1 x2 x3 x5 x6 x7 x8 x10 x11 x12 x13 x14 x15 x16 x17 x18 x19 x20 : Option Vl), (sem gls (callK gls ds (k+6)) (sti bdy 11)).s [some (.r 0), x1, x2, x3, some (.p (wsT es)), x5, x6, x7, x8, some (.p v), x10, x11, x12, x13, x14, x15, x16, x17, x18, x19, x20] (p0.o :: G) = .nx [some (.r 0), x1, x2, x3, some (.p (wsT es)), x5, x6, x7, x8, some (.p v), x10, x11, x12, x13, x14, x15, x16, x17, x18, x19, x20] (p0.o :: G) := by
  obtain ⟨y1, i1, e1, e2⟩ := hv.hd h.ok
  rw [hx] at e2
  intros
  simp [bdy, t__law_right, sti, fob, i1, e2]
theorem b11f (k : Nat) (es : List Int) (h : Ev es) (v : P) (hv : TR es v) (hx : exB es = false) (N : Nat) (p0 : Pot) (g : Gp N p0) (hN : N < 800000) (G : Sr) (x1 x2 x3 x5 x6 x7 x8 x10 x11 x12 x13 x14 x15 x16 x17 x18 x19 x20 : Option Vl) : ∃ q, Gp (N + 1) q ∧ (sem gls (callK gls ds (k+6)) (sti bdy 11)).s [some (.r 0), x1, x2, x3, some (.p (wsT es)), x5, x6, x7, x8, some (.p v), x10, x11, x12, x13, x14, x15, x16, x17, x18, x19, x20] (p0.o :: G) = .ct [some (.r 0), x1, x2, x3, some (.p (wsT es)), x5, x6, x7, x8, some (.p v), x10, x11, x12, x13, x14, x15, x16, x17, x18, x19, x20] (q.o :: G) := by
  obtain ⟨y1, i1, e1, e2⟩ := hv.hd h.ok
  rw [hx] at e2
  have hle := h.l
  obtain ⟨d1, q1, d10, d11, g1, w1⟩ := w_take (k+5) _ p0 11 g (by omega) (by omega)
  have f1 := fun m => w1 0 (p0.o :: G) m rfl
  simp at f1
  have rk2 : Rk (es ++ [1 + d1]) := rk_small (by simp; omega) fun e he => by
    rcases List.mem_append.mp he with he | he
    · have := h.b e he; omega
    · rw [List.mem_singleton.mp he]; omega
  obtain ⟨v2, hv2, st', h1⟩ := c_racking k _ rk2
  have a1 := fun s => callW_p1 (f := callK gls ds (k+6) 14) (m := false) (s := s) h1
  obtain ⟨y2, i2, e3, _⟩ := hv2.hd rk2.1
  have ex2 : exB (es ++ [1 + d1]) = false := exB_no.mpr fun c => exB_no.mp hx (Ex.sub (List.sublist_append_left _ _) c)
  rw [ex2] at e3
  have mt : ∀ s : Sr, mkTup [.p (.int (1 + d1))] s = .ok (.p (wsT [1 + d1])) s := fun s => rfl
  have ad : binP .Add (wsT es) (wsT [1 + d1]) = some (wsT (es ++ [1 + d1])) := addW (by simp; omega)
  refine ⟨q1, g1, ?_⟩
  simp [bdy, t__law_right, sti, fob, i1, e2, f1, mt, ad, a1, i2, e3]
theorem b12 (k : Nat) (es : List Int) (h : Ev es) (dd : List Int) (hd : Bg es dd) (ha : Apart es dd) (N : Nat) (p0 : Pot) (g : Gp N p0) (hN : N < 800000) (G : Sr) (x1 x2 x3 x5 x6 x7 x8 x10 x11 x12 x13 x14 x15 x16 x17 x18 x19 x20 : Option Vl) : ∃ a q, a < es.length ∧ Gp (N + 1) q ∧ (sem gls (callK gls ds (k+6)) (sti bdy 12)).s [some (.r 0), x1, x2, x3, some (.p (wsT es)), x5, x6, x7, x8, some (.p (.tuple [.str "begin", wsT dd])), x10, x11, x12, x13, x14, x15, x16, x17, x18, x19, x20] (p0.o :: G) = .nx [some (.r 0), x1, x2, x3, some (.p (wsT es)), some (.p (wsT dd)), x6, x7, x8, some (.p (.tuple [.str "begin", wsT dd])), some (.p (.int (a : Nat))), x11, x12, x13, x14, x15, x16, x17, x18, x19, x20] (q.o :: G) := by
  have hle := h.l
  obtain ⟨d1, q1, d10, d11, g1, w1⟩ := w_take (k+5) _ p0 (es.length : Int) g (by omega) (by omega)
  have f1 := fun m => w1 0 (p0.o :: G) m rfl
  simp at f1
  obtain ⟨a, rfl⟩ : ∃ a : Nat, d1 = a := ⟨d1.toNat, by omega⟩
  refine ⟨a, q1, by omega, g1, ?_⟩
  have i0 : ∀ s, ixV (.p (.tuple [.str "begin", wsT dd])) (.p (.int 1)) s = .ok (.p (wsT dd)) s := fun s => rfl
  simp [bdy, t__law_right, sti, fob, f1, i0]
theorem b13 (k : Nat) (es : List Int) (h : Ev es) (dd : List Int) (hd : Bg es dd) (ha : Apart es dd) : ∀ (p0 : Pot) (G : Sr) (x1 x2 x3 x6 x7 x8 x9 x10 x11 x12 x13 x14 x15 x16 x17 x18 x19 x20 : Option Vl), (sem gls (callK gls ds (k+6)) (sti bdy 13)).s [some (.r 0), x1, x2, x3, some (.p (wsT es)), some (.p (wsT dd)), x6, x7, x8, x9, x10, x11, x12, x13, x14, x15, x16, x17, x18, x19, x20] (p0.o :: G) = .nx [some (.r 0), x1, x2, x3, some (.p (wsT es)), some (.p (wsT dd)), x6, x7, x8, x9, x10, x11, x12, x13, x14, x15, x16, x17, x18, x19, x20] (p0.o :: G) := by
  have a1 := w_lm (k+4) es dd h.ok hd
  have ap : apB es dd = true := apB_iff.mpr ha
  rw [ap] at a1
  intros
  simp [bdy, t__law_right, sti, fob, a1]
theorem b14 (k : Nat) (es : List Int) (h : Ev es) (dd : List Int) (hd : Bg es dd) (ha : Apart es dd) (a : Nat) (hat : a < es.length) : ∀ (p0 : Pot) (G : Sr) (x1 x2 x3 x5 x6 x7 x8 x9 x11 x12 x13 x14 x15 x16 x17 x18 x19 x20 : Option Vl), (sem gls (callK gls ds (k+6)) (sti bdy 14)).s [some (.r 0), x1, x2, x3, some (.p (wsT es)), x5, x6, x7, x8, x9, some (.p (.int (a : Nat))), x11, x12, x13, x14, x15, x16, x17, x18, x19, x20] (p0.o :: G) = .nx [some (.r 0), x1, x2, x3, some (.p (wsT es)), x5, x6, x7, x8, x9, some (.p (.int (a : Nat))), x11, some (.p (wsT (es.take a ++ es.drop (a + 1)))), x13, x14, x15, x16, x17, x18, x19, x20] (p0.o :: G) := by
  have hle := h.l
  have s1 := slA es a
  have s2 := slB es a
  have ad : binP .Add (wsT (es.take a)) (wsT (es.drop (a + 1))) = some (wsT (es.take a ++ es.drop (a + 1))) := addW (by simp; omega)
  intros
  simp [bdy, t__law_right, sti, fob, s1, s2, ad, -List.map_take, -List.map_drop]
theorem b15 (k : Nat) (es : List Int) (h : Ev es) (dd : List Int) (hd : Bg es dd) (ha : Apart es dd) (a : Nat) (hat : a < es.length) : ∀ (p0 : Pot) (G : Sr) (x1 x2 x3 x4 x5 x6 x7 x8 x9 x10 x11 x13 x14 x15 x16 x17 x18 x19 x20 : Option Vl), (sem gls (callK gls ds (k+6)) (sti bdy 15)).s [some (.r 0), x1, x2, x3, x4, x5, x6, x7, x8, x9, x10, x11, some (.p (wsT (es.take a ++ es.drop (a + 1)))), x13, x14, x15, x16, x17, x18, x19, x20] (p0.o :: G) = .nx [some (.r 0), x1, x2, x3, x4, x5, x6, x7, x8, x9, x10, x11, some (.p (wsT (es.take a ++ es.drop (a + 1)))), x13, x14, x15, x16, x17, x18, x19, x20] (p0.o :: G) := by
  have hle := h.l
  have sb := sub_less (es := es) (a := a)
  have ne := neW0 (es.take a ++ es.drop (a + 1))
  have hx := Ex.sub sb (ex_of hd ha)
  have mt : ∀ s : Sr, mkTup [] s = .ok (.p (wsT [])) s := fun s => rfl
  have ll : (es.take a ++ es.drop (a + 1)).length ≤ 4 := by have := sb.length_le; omega
  have lb : ∀ e ∈ es.take a ++ es.drop (a + 1), 1 ≤ e ∧ e ≤ 12 := fun e he => h.b e (sb.subset he)
  generalize es.take a ++ es.drop (a + 1) = ls at *
  intros
  by_cases c : ls = []
  · subst c
    simp at ne
    simp [bdy, t__law_right, sti, fob, mt, ne]
  · have rk2 : Rk ls := rk_small ⟨by cases ls with | nil => exact absurd rfl c | cons _ _ => simp, by omega⟩ fun e he => by have := lb e he; omega
    obtain ⟨v2, hv2, st', h1⟩ := c_racking k _ rk2
    have a1 := fun s => callW_p1 (f := callK gls ds (k+6) 14) (m := false) (s := s) h1
    obtain ⟨y2, i2, _, e3⟩ := hv2.hd rk2.1
    rw [exB_iff.mpr hx] at e3
    simp [c] at ne
    simp [bdy, t__law_right, sti, fob, mt, ne, a1, i2, e3]
theorem b16 (k : Nat) (es : List Int) (h : Ev es) (dd : List Int) (hd : Bg es dd) (ha : Apart es dd) (a : Nat) (hat : a < es.length) : ∀ (p0 : Pot) (G : Sr) (x1 x2 x3 x5 x6 x7 x8 x9 x11 x12 x13 x14 x15 x16 x17 x18 x19 x20 : Option Vl), (sem gls (callK gls ds (k+6)) (sti bdy 16)).s [some (.r 0), x1, x2, x3, some (.p (wsT es)), x5, x6, x7, x8, x9, some (.p (.int (a : Nat))), x11, x12, x13, x14, x15, x16, x17, x18, x19, x20] (p0.o :: G) = .nx [some (.r 0), x1, x2, x3, some (.p (wsT es)), x5, x6, x7, x8, x9, some (.p (.int (a : Nat))), x11, x12, some (.p (wsT (es.take a ++ (2 * es.getD a 0) :: es.drop (a + 1)))), x14, x15, x16, x17, x18, x19, x20] (p0.o :: G) := by
  have hle := h.l
  have s1 := slA es a
  have s2 := slB es a
  have f1 := atD (l := es) hat
  have mt : ∀ s : Sr, mkTup [.p (.int (2 * es.getD a 0))] s = .ok (.p (wsT [2 * es.getD a 0])) s := fun s => rfl
  have m1 : binP .Mult (.int 2) (.int (es.getD a 0)) = some (.int (2 * es.getD a 0)) := muL_ok (by omega)
  have ad : binP .Add (wsT (es.take a)) (wsT [2 * es.getD a 0]) = some (wsT (es.take a ++ [2 * es.getD a 0])) := addW (by simp; omega)
  have ad2 : binP .Add (wsT (es.take a ++ [2 * es.getD a 0])) (wsT (es.drop (a + 1))) = some (wsT (es.take a ++ (2 * es.getD a 0) :: es.drop (a + 1))) := by
    rw [addW (by simp; omega), List.append_assoc]; rfl
  intros
  simp [bdy, t__law_right, sti, fob, s1, s2, f1, m1, mt, ad, ad2, -List.map_take, -List.map_drop, -List.getD_eq_getElem?_getD]
theorem b17 (k : Nat) (es : List Int) (h : Ev es) (dd : List Int) (hd : Bg es dd) (ha : Apart es dd) (a : Nat) (hat : a < es.length) : ∀ (p0 : Pot) (G : Sr) (x1 x2 x3 x4 x6 x7 x8 x9 x10 x11 x12 x14 x15 x16 x17 x18 x19 x20 : Option Vl), (sem gls (callK gls ds (k+6)) (sti bdy 17)).s [some (.r 0), x1, x2, x3, x4, some (.p (wsT dd)), x6, x7, x8, x9, x10, x11, x12, some (.p (wsT (es.take a ++ (2 * es.getD a 0) :: es.drop (a + 1)))), x14, x15, x16, x17, x18, x19, x20] (p0.o :: G) = .nx [some (.r 0), x1, x2, x3, x4, some (.p (wsT dd)), x6, x7, x8, x9, x10, x11, x12, some (.p (wsT (es.take a ++ (2 * es.getD a 0) :: es.drop (a + 1)))), x14, x15, x16, x17, x18, x19, x20] (p0.o :: G) := by
  have hle := h.l
  have ea : 1 ≤ es.getD a 0 ∧ es.getD a 0 ≤ 12 := by rw [gd hat]; exact h.b _ (List.getElem_mem _)
  have okh : Ok (es.take a ++ (2 * es.getD a 0) :: es.drop (a + 1)) := ⟨fun e he => by
    rcases List.mem_append.mp he with q | q
    · have := h.b e (List.mem_of_mem_take q); omega
    · rcases List.mem_cons.mp q with q | q
      · omega
      · have := h.b e (List.mem_of_mem_drop q); omega, by simp; omega⟩
  obtain ⟨b1, p1⟩ := half_ok hd ha hat
  obtain ⟨st', h1⟩ := c_shb k _ _ okh b1 p1
  have a1 := fun s => callW_p2 (f := callK gls ds (k+6) 16) (m := false) (s := s) h1
  have mt : ∀ s : Sr, mkTup [.p (.str "begin"), .p (wsT dd)] s = .ok (.p (.tuple [.str "begin", wsT dd])) s := fun s => rfl
  intros
  simp [bdy, t__law_right, sti, fob, mt, a1, -List.getD_eq_getElem?_getD]
theorem b18 (k : Nat) (es : List Int) (h : Ev es) (dd : List Int) (hd : Bg es dd) (ha : Apart es dd) (a : Nat) (hat : a < es.length) : ∀ (p0 : Pot) (G : Sr) (x1 x2 x3 x6 x7 x8 x9 x11 x12 x14 x15 x16 x17 x18 x19 x20 : Option Vl), (sem gls (callK gls ds (k+6)) (sti bdy 18)).s [some (.r 0), x1, x2, x3, some (.p (wsT es)), some (.p (wsT dd)), x6, x7, x8, x9, some (.p (.int (a : Nat))), x11, x12, some (.p (wsT (es.take a ++ (2 * es.getD a 0) :: es.drop (a + 1)))), x14, x15, x16, x17, x18, x19, x20] (p0.o :: G) = .nx [some (.r 0), x1, x2, x3, some (.p (wsT es)), some (.p (wsT dd)), x6, x7, x8, x9, some (.p (.int (a : Nat))), x11, x12, some (.p (wsT (es.take a ++ (2 * es.getD a 0) :: es.drop (a + 1)))), some (.p (wsT (es.take a ++ (2 * es.getD a 0) :: es.drop (a + 1) ++ [2 * es.getD a 0]))), some (.p (wsT (dd ++ [dd.getD a 0 + es.getD a 0]))), x16, x17, x18, x19, x20] (p0.o :: G) := by
  have hle := h.l
  have ea : 1 ≤ es.getD a 0 ∧ es.getD a 0 ≤ 12 := by rw [gd hat]; exact h.b _ (List.getElem_mem _)
  have okh : Ok (es.take a ++ (2 * es.getD a 0) :: es.drop (a + 1)) := ⟨fun e he => by
    rcases List.mem_append.mp he with q | q
    · have := h.b e (List.mem_of_mem_take q); omega
    · rcases List.mem_cons.mp q with q | q
      · omega
      · have := h.b e (List.mem_of_mem_drop q); omega, by simp; omega⟩
  have f1 := atD (l := es) hat
  have hdl := hd.1
  have f2 := atD (l := dd) (i := a) (by omega)
  have mt : ∀ s : Sr, mkTup [.p (.int (2 * es.getD a 0))] s = .ok (.p (wsT [2 * es.getD a 0])) s := fun s => rfl
  have mt2 : ∀ s : Sr, mkTup [.p (.int (dd.getD a 0 + es.getD a 0))] s = .ok (.p (wsT [dd.getD a 0 + es.getD a 0])) s := fun s => rfl
  have m1 : binP .Mult (.int 2) (.int (es.getD a 0)) = some (.int (2 * es.getD a 0)) := muL_ok (by omega)
  have ol := okh.l
  generalize es.take a ++ (2 * es.getD a 0) :: es.drop (a + 1) = hf at *
  have ad : binP .Add (wsT hf) (wsT [2 * es.getD a 0]) = some (wsT (hf ++ [2 * es.getD a 0])) := addW (by simp; omega)
  have ad2 : binP .Add (wsT dd) (wsT [dd.getD a 0 + es.getD a 0]) = some (wsT (dd ++ [dd.getD a 0 + es.getD a 0])) := addW (by simp; omega)
  intros
  simp [bdy, t__law_right, sti, fob, f1, f2, m1, mt, mt2, ad, ad2, -List.getD_eq_getElem?_getD]
theorem b19 (k : Nat) (es : List Int) (h : Ev es) (dd : List Int) (hd : Bg es dd) (ha : Apart es dd) (a : Nat) (hat : a < es.length) : ∀ (p0 : Pot) (G : Sr) (x1 x2 x3 x4 x5 x6 x7 x8 x9 x10 x11 x12 x13 x16 x17 x18 x19 x20 : Option Vl), (sem gls (callK gls ds (k+6)) (sti bdy 19)).s [some (.r 0), x1, x2, x3, x4, x5, x6, x7, x8, x9, x10, x11, x12, x13, some (.p (wsT (es.take a ++ (2 * es.getD a 0) :: es.drop (a + 1) ++ [2 * es.getD a 0]))), some (.p (wsT (dd ++ [dd.getD a 0 + es.getD a 0]))), x16, x17, x18, x19, x20] (p0.o :: G) = .nx [some (.r 0), x1, x2, x3, x4, x5, x6, x7, x8, x9, x10, x11, x12, x13, some (.p (wsT (es.take a ++ (2 * es.getD a 0) :: es.drop (a + 1) ++ [2 * es.getD a 0]))), some (.p (wsT (dd ++ [dd.getD a 0 + es.getD a 0]))), x16, x17, x18, x19, x20] (p0.o :: G) := by
  have hle := h.l
  have ea : 1 ≤ es.getD a 0 ∧ es.getD a 0 ≤ 12 := by rw [gd hat]; exact h.b _ (List.getElem_mem _)
  have okh : Ok (es.take a ++ (2 * es.getD a 0) :: es.drop (a + 1)) := ⟨fun e he => by
    rcases List.mem_append.mp he with q | q
    · have := h.b e (List.mem_of_mem_take q); omega
    · rcases List.mem_cons.mp q with q | q
      · omega
      · have := h.b e (List.mem_of_mem_drop q); omega, by simp; omega⟩
  obtain ⟨b1, p1⟩ := two_ok hd ha hat
  have ol := okh.l
  have ok2 : Ok (es.take a ++ (2 * es.getD a 0) :: es.drop (a + 1) ++ [2 * es.getD a 0]) := ⟨fun e he => by
    rcases List.mem_append.mp he with q | q
    · exact okh.b e q
    · rw [List.mem_singleton.mp q]; omega, by simp; omega⟩
  obtain ⟨st', h1⟩ := c_shb k _ _ ok2 b1 p1
  have a1 := fun s => callW_p2 (f := callK gls ds (k+6) 16) (m := false) (s := s) h1
  have mt : ∀ s : Sr, mkTup [.p (.str "begin"), .p (wsT (dd ++ [dd.getD a 0 + es.getD a 0]))] s = .ok (.p (.tuple [.str "begin", wsT (dd ++ [dd.getD a 0 + es.getD a 0])])) s := fun s => rfl
  intros
  simp [bdy, t__law_right, sti, fob, mt, a1, -List.getD_eq_getElem?_getD, -List.append_assoc]
end K69
end
section
set_option linter.all false
set_option maxRecDepth 100000
set_option maxHeartbeats 4000000
namespace K69
open PySem Mi
/-! the lap put together (printed by g69c.py) -/
theorem lap (k N : Nat) (p0 : Pot) (g : Gp N p0) (hN : N < 700000) (G : Sr) (x1 x2 x3 x4 x5 x6 x7 x8 x9 x10 x11 x12 x13 x14 x15 x16 x17 x18 x19 x20 : Option Vl) : ∃ y1 y2 y3 y4 y5 y6 y7 y8 y9 y10 y11 y12 y13 y14 y15 y16 y17 y18 y19 y20 q, ((sem gls (callK gls ds (k+6)) bdy).s [some (.r 0), x1, x2, x3, x4, x5, x6, x7, x8, x9, x10, x11, x12, x13, x14, x15, x16, x17, x18, x19, x20] (p0.o :: G) = .nx [some (.r 0), y1, y2, y3, y4, y5, y6, y7, y8, y9, y10, y11, y12, y13, y14, y15, y16, y17, y18, y19, y20] (Pot.o q :: G) ∨ (sem gls (callK gls ds (k+6)) bdy).s [some (.r 0), x1, x2, x3, x4, x5, x6, x7, x8, x9, x10, x11, x12, x13, x14, x15, x16, x17, x18, x19, x20] (p0.o :: G) = .ct [some (.r 0), y1, y2, y3, y4, y5, y6, y7, y8, y9, y10, y11, y12, y13, y14, y15, y16, y17, y18, y19, y20] (Pot.o q :: G)) ∧ Gp (N + 20) q := by
  obtain ⟨st, q1, hst, g1, e0⟩ := b0 k  _ p0 g (by omega) G (x1) (x2) (x3) (x4) (x5) (x6) (x7) (x8) (x9) (x10) (x11) (x12) (x13) (x14) (x15) (x16) (x17) (x18) (x19) (x20)
  obtain ⟨es, q2, h, g2, e1⟩ := b1 k st hst _ q1 g1 (by omega) G (x1) (x3) (x4) (x5) (x6) (x7) (x8) (x9) (x10) (x11) (x12) (x13) (x14) (x15) (x16) (x17) (x18) (x19) (x20)
  obtain ⟨bs, q3, hb, g3, e2⟩ := b2 k es h _ q2 g2 (by omega) G (x1) (some (.p (.int st))) (x3) (x5) (x6) (x7) (x8) (x9) (x10) (x11) (x12) (x13) (x14) (x15) (x16) (x17) (x18) (x19) (x20)
  have e3 := b3 k es h bs hb q3 G (x1) (some (.p (.int st))) (x3) (x5) (x7) (x8) (x9) (x10) (x11) (x12) (x13) (x14) (x15) (x16) (x17) (x18) (x19) (x20)
  obtain ⟨on, q4, _, g4, e4⟩ := b4 k  _ q3 g3 (by omega) G (x1) (some (.p (.int st))) (x3) (some (.p (wsT es))) (x5) (some (.p (wsT bs))) (x7) (x8) (x9) (x10) (x11) (x12) (x13) (x14) (x15) (x16) (x17) (x18) (x19) (x20)
  have e5 := b5 k es h bs hb on q4 G (x1) (some (.p (.int st))) (x3) (x5) (x8) (x9) (x10) (x11) (x12) (x13) (x14) (x15) (x16) (x17) (x18) (x19) (x20)
  have e6 := b6 k es h bs hb on q4 G (x1) (some (.p (.int st))) (x3) (x5) (some (.p (.int on))) (x9) (x10) (x11) (x12) (x13) (x14) (x15) (x16) (x17) (x18) (x19) (x20)
  have e7 := b7 k es h bs hb on q4 G (x1) (some (.p (.int st))) (x3) (x5) (some (.p (.int on))) (x9) (x10) (x11) (x12) (x13) (x14) (x15) (x16) (x17) (x18) (x19) (x20)
  obtain ⟨v, hv, e8⟩ := b8 k es h
  have e8 := e8 q4 G (x1) (some (.p (.int st))) (x3) (x5) (some (.p (wsT bs))) (some (.p (.int on))) (some (.p (wsT (mvL on es bs)))) (x9) (x10) (x11) (x12) (x13) (x14) (x15) (x16) (x17) (x18) (x19) (x20)
  obtain ⟨fs, q5, hf, g5, e9⟩ := b9 k es h _ q4 g4 (by omega) G (x1) (some (.p (.int st))) (x3) (x5) (some (.p (wsT bs))) (some (.p (.int on))) (some (.p (wsT (mvL on es bs)))) (some (.p v)) (x10) (x11) (x12) (x13) (x14) (x15) (x16) (x17) (x18) (x19) (x20)
  have e10 := b10 k es h v hv fs hf q5 G (x1) (some (.p (.int st))) (x3) (x5) (some (.p (wsT bs))) (some (.p (.int on))) (some (.p (wsT (mvL on es bs)))) (x10) (x12) (x13) (x14) (x15) (x16) (x17) (x18) (x19) (x20)
  cases hx : exB es with
  | false =>
    obtain ⟨qf, gf, e11⟩ := b11f k es h v hv hx _ q5 g5 (by omega) G (x1) (some (.p (.int st))) (x3) (x5) (some (.p (wsT bs))) (some (.p (.int on))) (some (.p (wsT (mvL on es bs)))) (x10) (some (.p (.list (List.map PyData.int fs)))) (x12) (x13) (x14) (x15) (x16) (x17) (x18) (x19) (x20)
    refine ⟨x1, some (.p (.int st)), x3, some (.p (wsT es)), x5, some (.p (wsT bs)), some (.p (.int on)), some (.p (wsT (mvL on es bs))), some (.p v), x10, some (.p (.list (List.map PyData.int fs))), x12, x13, x14, x15, x16, x17, x18, x19, x20, qf, .inr ?_, gf.le (by omega)⟩
    rw [show bdy = drT bdy 0 from rfl]
    rw [sq 0 _ _ _ _ rfl, e0, th_nx]
    rw [sq 1 _ _ _ _ rfl, e1, th_nx]
    rw [sq 2 _ _ _ _ rfl, e2, th_nx]
    rw [sq 3 _ _ _ _ rfl, e3, th_nx]
    rw [sq 4 _ _ _ _ rfl, e4, th_nx]
    rw [sq 5 _ _ _ _ rfl, e5, th_nx]
    rw [sq 6 _ _ _ _ rfl, e6, th_nx]
    rw [sq 7 _ _ _ _ rfl, e7, th_nx]
    rw [sq 8 _ _ _ _ rfl, e8, th_nx]
    rw [sq 9 _ _ _ _ rfl, e9, th_nx]
    rw [sq 10 _ _ _ _ rfl, e10, th_nx]
    rw [sq 11 _ _ _ _ rfl, e11]
    rfl
  | true =>
    have e11 := b11t k es h v hv hx q5 G (x1) (some (.p (.int st))) (x3) (x5) (some (.p (wsT bs))) (some (.p (.int on))) (some (.p (wsT (mvL on es bs)))) (x10) (some (.p (.list (List.map PyData.int fs)))) (x12) (x13) (x14) (x15) (x16) (x17) (x18) (x19) (x20)
    obtain ⟨dd, rfl, hd, ha⟩ := hv.bg h.ok (exB_iff.mp hx)
    obtain ⟨a, q6, hat, g6, e12⟩ := b12 k es h dd hd ha _ q5 g5 (by omega) G (x1) (some (.p (.int st))) (x3) (x5) (some (.p (wsT bs))) (some (.p (.int on))) (some (.p (wsT (mvL on es bs)))) (x10) (some (.p (.list (List.map PyData.int fs)))) (x12) (x13) (x14) (x15) (x16) (x17) (x18) (x19) (x20)
    have e13 := b13 k es h dd hd ha q6 G (x1) (some (.p (.int st))) (x3) (some (.p (wsT bs))) (some (.p (.int on))) (some (.p (wsT (mvL on es bs)))) (some (.p (.tuple [.str "begin", wsT dd]))) (some (.p (.int (a : Nat)))) (some (.p (.list (List.map PyData.int fs)))) (x12) (x13) (x14) (x15) (x16) (x17) (x18) (x19) (x20)
    have e14 := b14 k es h dd hd ha a hat q6 G (x1) (some (.p (.int st))) (x3) (some (.p (wsT dd))) (some (.p (wsT bs))) (some (.p (.int on))) (some (.p (wsT (mvL on es bs)))) (some (.p (.tuple [.str "begin", wsT dd]))) (some (.p (.list (List.map PyData.int fs)))) (x12) (x13) (x14) (x15) (x16) (x17) (x18) (x19) (x20)
    have e15 := b15 k es h dd hd ha a hat q6 G (x1) (some (.p (.int st))) (x3) (some (.p (wsT es))) (some (.p (wsT dd))) (some (.p (wsT bs))) (some (.p (.int on))) (some (.p (wsT (mvL on es bs)))) (some (.p (.tuple [.str "begin", wsT dd]))) (some (.p (.int (a : Nat)))) (some (.p (.list (List.map PyData.int fs)))) (x13) (x14) (x15) (x16) (x17) (x18) (x19) (x20)
    have e16 := b16 k es h dd hd ha a hat q6 G (x1) (some (.p (.int st))) (x3) (some (.p (wsT dd))) (some (.p (wsT bs))) (some (.p (.int on))) (some (.p (wsT (mvL on es bs)))) (some (.p (.tuple [.str "begin", wsT dd]))) (some (.p (.list (List.map PyData.int fs)))) (some (.p (wsT (es.take a ++ es.drop (a + 1))))) (x13) (x14) (x15) (x16) (x17) (x18) (x19) (x20)
    have e17 := b17 k es h dd hd ha a hat q6 G (x1) (some (.p (.int st))) (x3) (some (.p (wsT es))) (some (.p (wsT bs))) (some (.p (.int on))) (some (.p (wsT (mvL on es bs)))) (some (.p (.tuple [.str "begin", wsT dd]))) (some (.p (.int (a : Nat)))) (some (.p (.list (List.map PyData.int fs)))) (some (.p (wsT (es.take a ++ es.drop (a + 1))))) (x14) (x15) (x16) (x17) (x18) (x19) (x20)
    have e18 := b18 k es h dd hd ha a hat q6 G (x1) (some (.p (.int st))) (x3) (some (.p (wsT bs))) (some (.p (.int on))) (some (.p (wsT (mvL on es bs)))) (some (.p (.tuple [.str "begin", wsT dd]))) (some (.p (.list (List.map PyData.int fs)))) (some (.p (wsT (es.take a ++ es.drop (a + 1))))) (x14) (x15) (x16) (x17) (x18) (x19) (x20)
    have e19 := b19 k es h dd hd ha a hat q6 G (x1) (some (.p (.int st))) (x3) (some (.p (wsT es))) (some (.p (wsT dd))) (some (.p (wsT bs))) (some (.p (.int on))) (some (.p (wsT (mvL on es bs)))) (some (.p (.tuple [.str "begin", wsT dd]))) (some (.p (.int (a : Nat)))) (some (.p (.list (List.map PyData.int fs)))) (some (.p (wsT (es.take a ++ es.drop (a + 1))))) (some (.p (wsT (es.take a ++ (2 * es.getD a 0) :: es.drop (a + 1))))) (x16) (x17) (x18) (x19) (x20)
    refine ⟨x1, some (.p (.int st)), x3, some (.p (wsT es)), some (.p (wsT dd)), some (.p (wsT bs)), some (.p (.int on)), some (.p (wsT (mvL on es bs))), some (.p (.tuple [.str "begin", wsT dd])), some (.p (.int (a : Nat))), some (.p (.list (List.map PyData.int fs))), some (.p (wsT (es.take a ++ es.drop (a + 1)))), some (.p (wsT (es.take a ++ (2 * es.getD a 0) :: es.drop (a + 1)))), some (.p (wsT (es.take a ++ (2 * es.getD a 0) :: es.drop (a + 1) ++ [2 * es.getD a 0]))), some (.p (wsT (dd ++ [dd.getD a 0 + es.getD a 0]))), x16, x17, x18, x19, x20, q6, .inl ?_, g6.le (by omega)⟩
    rw [show bdy = drT bdy 0 from rfl]
    rw [sq 0 _ _ _ _ rfl, e0, th_nx]
    rw [sq 1 _ _ _ _ rfl, e1, th_nx]
    rw [sq 2 _ _ _ _ rfl, e2, th_nx]
    rw [sq 3 _ _ _ _ rfl, e3, th_nx]
    rw [sq 4 _ _ _ _ rfl, e4, th_nx]
    rw [sq 5 _ _ _ _ rfl, e5, th_nx]
    rw [sq 6 _ _ _ _ rfl, e6, th_nx]
    rw [sq 7 _ _ _ _ rfl, e7, th_nx]
    rw [sq 8 _ _ _ _ rfl, e8, th_nx]
    rw [sq 9 _ _ _ _ rfl, e9, th_nx]
    rw [sq 10 _ _ _ _ rfl, e10, th_nx]
    rw [sq 11 _ _ _ _ rfl, e11, th_nx]
    rw [sq 12 _ _ _ _ rfl, e12, th_nx]
    rw [sq 13 _ _ _ _ rfl, e13, th_nx]
    rw [sq 14 _ _ _ _ rfl, e14, th_nx]
    rw [sq 15 _ _ _ _ rfl, e15, th_nx]
    rw [sq 16 _ _ _ _ rfl, e16, th_nx]
    rw [sq 17 _ _ _ _ rfl, e17, th_nx]
    rw [sq 18 _ _ _ _ rfl, e18, th_nx]
    rw [sq 19 _ _ _ _ rfl, e19, th_nx]
    rfl
end K69
end
section
set_option linter.all false
set_option maxRecDepth 100000
set_option maxHeartbeats 4000000
namespace K69
open PySem Mi
/-! the rest of the law (printed by g69d.py) -/
theorem mulR (a : Int) (m : Nat) (h : 1 ≤ m ∧ m ≤ 100) : binP .Mult (.tuple [.int a]) (.int (m : Nat)) = some (wsT (List.replicate m a)) := by
  show (if _ then _ else _) = _
  rw [if_pos ⟨by simp, by omega, by omega, by simp⟩]
  simp [wsT, rep, List.flatten_replicate_singleton]
theorem neL (l : List Int) : cmpP .NotEq (.list (l.map .int)) (.list (l.map .int)) = some false := by
  simp only [cmpP, sh_ints, Bool.and_self, if_true]
  have : ∀ l : List Int, PyData.eqvAll (l.map .int) (l.map .int) = true := fun l => by
    induction l with
    | nil => simp [PyData.eqvAll]
    | cons x r ih => simp [PyData.eqvAll, PyData.eqv, ih]
  simp [PyData.eqv, this]
theorem eqb (a b : Bool) : cmpP .Eq (.bool a) (.bool b) = some (a == b) := by
  have sb : ∀ c, sh (.bool c) = true := fun c => by
    unfold sh SeqAt.shaped
    simp [PyData.canLay0, PyData.depth]
  simp only [cmpP, sb, Bool.and_self, if_true]
  cases a <;> cases b <;> simp [PyData.eqv]
def bdn : Mi.T := fob (sti t__law_right 1)
theorem num1 (k n : Nat) (hn : 1 ≤ n ∧ n ≤ 5) (p0 : Pot) (G : Sr) (x1 x2 x3 x4 x5 x6 x7 x8 x9 x10 x11 x12 x13 x14 x15 x16 x17 x18 x19 x20 : Option Vl) : ∃ y17, (sem gls (callK gls ds (k+6)) bdn).s [some (.r 0), x1, x2, x3, x4, x5, x6, x7, x8, x9, x10, x11, x12, x13, x14, x15, some (.p (.int (n : Nat))), x17, x18, x19, x20] (p0.o :: G) = .nx [some (.r 0), x1, x2, x3, x4, x5, x6, x7, x8, x9, x10, x11, x12, x13, x14, x15, some (.p (.int (n : Nat))), y17, x18, x19, x20] (p0.o :: G) := by
  have rk1 : Rk (List.replicate n (n : Int)) := rk_small (by simp; omega) fun x hx => by rw [List.eq_of_mem_replicate hx]; omega
  have hx := ex_full n hn.1
  obtain ⟨v, hv, st', h1⟩ := c_racking k _ rk1
  have a1 := fun s => callW_p1 (f := callK gls ds (k+6) 14) (m := false) (s := s) h1
  obtain ⟨bs, rfl, hb, ha⟩ := hv.bg rk1.1 hx
  have so := full_sorted hn.1 hb ha
  have sT := bi_sortT bs
  rw [so] at sT
  have sT : biP .sorted [wsT bs] = some (.list (((List.range n).map fun (j : Nat) => (j : Int)).map .int)) := sT
  have m1 := mulR (n : Int) n (by omega)
  have m2 := mulR (n : Int) (n + 1) (by omega)
  have m2 : binP .Mult (.tuple [.int (n : Int)]) (.int ((n : Int) + 1)) = some (wsT (List.replicate (n + 1) (n : Int))) := by rw [← m2]; rfl
  have tov := tb_over n hn.1 hn.2
  have rk2 : Rk (List.replicate (n + 1) (n : Int)) := ⟨⟨fun x hx => by rw [List.eq_of_mem_replicate hx]; omega, by simp; omega⟩, .inr tov⟩
  obtain ⟨v2, hv2, st2, h2⟩ := c_racking k _ rk2
  have a2 := fun s => callW_p1 (f := callK gls ds (k+6) 14) (m := false) (s := s) h2
  obtain ⟨y2, i2, e2, _⟩ := hv2.hd rk2.1
  rw [exB_no.mpr fun g => no_load rk2.1 g tov] at e2
  have mt : ∀ s : Sr, mkTup [.p (.int (n : Int))] s = .ok (.p (.tuple [.int (n : Int)])) s := fun s => rfl
  have i0 : ∀ s, ixV (.p (.tuple [.str "begin", wsT bs])) (.p (.int 0)) s = .ok (.p (.str "begin")) s := fun s => rfl
  have i1 : ∀ s, ixV (.p (.tuple [.str "begin", wsT bs])) (.p (.int 1)) s = .ok (.p (wsT bs)) s := fun s => rfl
  have l1 := lrgP_1 n (by omega)
  have er : rng 0 1 n = ((List.range n).map fun (j : Nat) => (j : Int)).map PyData.int := by rw [rng_eq, List.map_map]; simp [Function.comp_def]
  rw [er] at l1
  have ne := neL ((List.range n).map fun (j : Nat) => (j : Int))
  generalize ((List.range n).map fun (j : Nat) => (j : Int)) = R0 at *
  refine ⟨some (.p (.tuple [.str "begin", wsT bs])), ?_⟩
  simp [bdn, t__law_right, sti, fob, mt, m1, m2, a1, a2, i0, i1, sT, l1, ne, i2, e2]
theorem nums (k : Nat) (p0 : Pot) (G : Sr) (x1 x2 x3 x4 x5 x6 x7 x8 x9 x10 x11 x12 x13 x14 x15 x16 x17 x18 x19 x20 : Option Vl) : ∃ y16 y17, (sem gls (callK gls ds (k+6)) (sti t__law_right 1)).s [some (.r 0), x1, x2, x3, x4, x5, x6, x7, x8, x9, x10, x11, x12, x13, x14, x15, x16, x17, x18, x19, x20] (p0.o :: G) = .nx [some (.r 0), x1, x2, x3, x4, x5, x6, x7, x8, x9, x10, x11, x12, x13, x14, x15, y16, y17, x18, x19, x20] (p0.o :: G) := by
  have rg : rgP [.int 1, .int 6] = some ((List.range 5).map fun (j : Nat) => .int ((j + 1 : Nat) : Int)) := by
    rw [rgP_2 _ _ (by omega) (by omega), rng_eq]
    rfl
  have L := fun hh => forL_inv (tg := kV 16) (b := (sem gls (callK gls ds (k+6)) bdn).s)
    (fun n e' s => s = p0.o :: G ∧ ∃ y16 y17, e' = [some (.r 0), x1, x2, x3, x4, x5, x6, x7, x8, x9, x10, x11, x12, x13, x14, x15, y16, y17, x18, x19, x20])
    ((List.range 5).map fun (j : Nat) => Vl.p (PyData.int ((j + 1 : Nat) : Int))) 0 [some (.r 0), x1, x2, x3, x4, x5, x6, x7, x8, x9, x10, x11, x12, x13, x14, x15, x16, x17, x18, x19, x20] (p0.o :: G) ⟨rfl, x16, x17, rfl⟩ hh
  obtain ⟨e', s', h1, rfl, y16, y17, rfl⟩ := L (by
    rintro j v e' s hv ⟨rfl, y16, y17, rfl⟩
    rw [List.getElem?_map] at hv
    obtain ⟨i, hi, rfl⟩ := Option.map_eq_some_iff.mp hv
    have hi2 := List.mem_range.mp (List.mem_of_getElem? hi)
    obtain ⟨z, hz⟩ := num1 k (i + 1) (by omega) p0 G x1 x2 x3 x4 x5 x6 x7 x8 x9 x10 x11 x12 x13 x14 x15 y16 y17 x18 x19 x20
    exact ⟨[some (.r 0), x1, x2, x3, x4, x5, x6, x7, x8, x9, x10, x11, x12, x13, x14, x15, some (.p (.int ((i + 1 : Nat) : Int))), y17, x18, x19, x20], _, rfl, _, _, .inl hz, rfl, _, _, rfl⟩)
  have fa := fo_at (gl := gls) (F := callK gls ds (k+6)) (t := sti t__law_right 1) (e := [some (.r 0), x1, x2, x3, x4, x5, x6, x7, x8, x9, x10, x11, x12, x13, x14, x15, x16, x17, x18, x19, x20]) (s := p0.o :: G) (s' := p0.o :: G) (vs := (List.range 5).map fun (j : Nat) => Vl.p (PyData.int ((j + 1 : Nat) : Int))) ⟨_, _, _, _, rfl⟩ (by
    simp only [t__law_right, sti, foi]
    simp [rg, Function.comp_def])
  exact ⟨y16, y17, fa.trans h1⟩
/-! powers -/
theorem pows (k N : Nat) (p0 : Pot) (g : Gp N p0) (hN : N < 800000) (x1 x2 x3 x4 x5 x6 x7 x8 x9 x10 x11 x12 x13 x14 x15 x16 x17 x18 x19 x20 : Option Vl) : ∃ y3 ps q, Pw ps ∧ Gp (N + 5) q ∧ (sem gls (callK gls ds (k+6)) (sti t__law_right 3)).s [some (.r 0), x1, x2, x3, x4, x5, x6, x7, x8, x9, x10, x11, x12, x13, x14, x15, x16, x17, some (.r 1), x19, x20] [p0.o, .lp 0 []] = .nx [some (.r 0), x1, x2, y3, x4, x5, x6, x7, x8, x9, x10, x11, x12, x13, x14, x15, x16, x17, some (.r 1), x19, x20] [q.o, .lp 0 (ps.map .int)] := by
  obtain ⟨d1, q1, d10, d11, g1, w1⟩ := w_take (k+5) _ p0 4 g (by omega) (by omega)
  have f1 := fun m => w1 0 [p0.o, .lp 0 []] m rfl
  simp at f1
  obtain ⟨n, hn⟩ : ∃ n : Nat, 1 + d1 = (n : Int) := ⟨(1 + d1).toNat, by omega⟩
  have rg := rg_1 (n : Int) (by omega)
  rw [Int.toNat_natCast] at rg
  have L := fun hh => forL_inv (tg := kV 3) (b := (sem gls (callK gls ds (k+6)) (fob (sti t__law_right 3))).s)
    (fun i e' s => ∃ y3 ps q, e' = [some (.r 0), x1, x2, y3, x4, x5, x6, x7, x8, x9, x10, x11, x12, x13, x14, x15, x16, x17, some (.r 1), x19, x20] ∧ s = [Pot.o q, .lp 0 (List.map PyData.int ps)] ∧ ps.length = i ∧ (∀ x ∈ ps, x = 2 ∨ x = 4 ∨ x = 8 ∨ x = 16) ∧ Gp (N + 1 + i) q)
    ((List.range n).map fun (j : Nat) => Vl.p (PyData.int (j : Int))) 0 [some (.r 0), x1, x2, x3, x4, x5, x6, x7, x8, x9, x10, x11, x12, x13, x14, x15, x16, x17, some (.r 1), x19, x20] [q1.o, .lp 0 []] ⟨x3, [], q1, rfl, rfl, rfl, fun x hx => absurd hx List.not_mem_nil, g1⟩ hh
  obtain ⟨e', s', h1, y3, ps, q, rfl, rfl, h2, h3, h4⟩ := L (by
    rintro j v e' s hv ⟨y3, ps, q, rfl, rfl, h2, h3, h4⟩
    rw [Nat.zero_add] at h2 h4 ⊢
    obtain ⟨hj, rfl⟩ := rgV hv
    obtain ⟨i, q2, hi, g2, w2⟩ := w_of (k+4) _ q [.int 2, .int 4, .int 8, .int 16] h4 (by omega) (by simp)
    have f2 := fun m => w2 0 [q.o, .lp 0 (ps.map .int)] m rfl
    simp at f2
    have l4 : ∀ s : Sr, mkLstV false [Vl.p (.int 2), .p (.int 4), .p (.int 8), .p (.int 16)] s = .ok (.p (.list [.int 2, .int 4, .int 8, .int 16])) s := fun s => mkLstV_ps (xs := [.int 2, .int 4, .int 8, .int 16]) (by decide)
    obtain ⟨st, hp, e⟩ : ∃ st : Int, (st = 2 ∨ st = 4 ∨ st = 8 ∨ st = 16) ∧ [PyData.int 2, .int 4, .int 8, .int 16][i] = .int st := by
      simp at hi
      match i, hi with
      | 0, _ => exact ⟨2, by omega, rfl⟩
      | 1, _ => exact ⟨4, by omega, rfl⟩
      | 2, _ => exact ⟨8, by omega, rfl⟩
      | 3, _ => exact ⟨16, by omega, rfl⟩
    simp only [e] at f2
    have ap : appV (.r 1) (.p (.int st)) [q2.o, .lp 0 (ps.map .int)] = some [q2.o, .lp 0 ((ps ++ [st]).map .int)] := by
      rw [app_lp (n := 1) (xs := ps.map .int) rfl (by simp; unfold lim; omega)]
      simp
    have iL : isL (.r 1) [q.o, .lp 0 (ps.map PyData.int)] = true := rfl
    refine ⟨[some (.r 0), x1, x2, some (.p (.int (j : Nat))), x4, x5, x6, x7, x8, x9, x10, x11, x12, x13, x14, x15, x16, x17, some (.r 1), x19, x20], [q.o, .lp 0 (ps.map .int)], rfl, [some (.r 0), x1, x2, some (.p (.int (j : Nat))), x4, x5, x6, x7, x8, x9, x10, x11, x12, x13, x14, x15, x16, x17, some (.r 1), x19, x20], [q2.o, .lp 0 ((ps ++ [st]).map .int)], .inl ?_, _, ps ++ [st], q2, rfl, rfl, by simp; omega, fun x hx => ?_, g2⟩
    · simp only [t__law_right, sti, fob]
      simp [iL, l4, f2, ap, -isL, -isDp, -List.map_append]
    · rcases List.mem_append.mp hx with hx | hx
      · exact h3 x hx
      · rw [List.mem_singleton.mp hx]; exact hp)
  rw [Nat.zero_add, List.length_map, List.length_range] at h2 h4
  have fa := fo_at (gl := gls) (F := callK gls ds (k+6)) (t := sti t__law_right 3) (e := [some (.r 0), x1, x2, x3, x4, x5, x6, x7, x8, x9, x10, x11, x12, x13, x14, x15, x16, x17, some (.r 1), x19, x20]) (s := [p0.o, .lp 0 []]) (s' := [q1.o, .lp 0 []]) (vs := (List.range n).map fun (j : Nat) => Vl.p (PyData.int (j : Int))) ⟨_, _, _, _, rfl⟩ (by
    simp only [t__law_right, sti, foi]
    simp [f1, hn, rg, Function.comp_def])
  exact ⟨y3, ps, q, ⟨by omega, h3⟩, h4.le (by omega), fa.trans h1⟩
theorem ld_sum : ∀ ps : List Int, (∀ x ∈ ps, 0 ≤ x) → (ps.map fun x => 16 / x).sum = (ldP ps : Int)
  | [], _ => rfl
  | x :: r, h => by
    have ih := ld_sum r fun y hy => h y (List.mem_cons_of_mem _ hy)
    have hx := h x List.mem_cons_self
    rw [List.map_cons, List.sum_cons, ih]
    unfold ldP ld
    simp only [List.map_cons, List.sum_cons]
    push_cast
    rw [Int.toNat_of_nonneg hx]
theorem w_load (k : Nat) (ps : List Int) (h : Pw ps) (q : Pot) (x1 x2 x3 x4 x5 x6 x7 x8 x9 x10 x11 x12 x13 x14 x15 x16 x17 x18 x19 x20 : Option Vl) : (sem gls (callK gls ds (k+6)) (sti t__law_right 4)).s [some (.r 0), x1, x2, x3, x4, x5, x6, x7, x8, x9, x10, x11, x12, x13, x14, x15, x16, x17, some (.r 1), x19, x20] [q.o, .lp 0 (ps.map .int)] = .nx [some (.r 0), x1, x2, x3, x4, x5, x6, x7, x8, x9, x10, x11, x12, x13, x14, x15, x16, x17, some (.r 1), some (.p (.int (ldP ps : Nat))), x20] [q.o, .lp 0 (ps.map .int)] := by
  have io : itOf (.r 1) [q.o, .lp 0 (ps.map PyData.int)] = .ok (.inr 1) [q.o, .lp 0 (ps.map PyData.int)] := rfl
  have hl := h.1
  simp [t__law_right, sti, io, -itOf_r1]
  rw [cpR_map (fun x => match x with | .int i => .int (16 / i) | _ => .none) (n := 1) (xs := ps.map PyData.int) (z := 0) rfl (by simp; unfold bigN; omega)]
  · have sm := bi_sumL (ns := ps.map fun x => 16 / x)
    rw [ld_sum ps fun x hx => by have := h.2 x hx; omega, List.map_map] at sm
    simp only [Function.comp_def] at sm
    simp [Function.comp_def, sm]
  · intro x hx
    obtain ⟨i, hi, rfl⟩ := List.mem_map.mp hx
    have := h.2 i hi
    have d1 : binP .FloorDiv (.int 16) (.int i) = some (.int (16 / i)) := div_ok (by omega)
    simp [wipeE, d1]
theorem w_end (k : Nat) (ps : List Int) (h : Pw ps) (q : Pot) (x1 x2 x3 x4 x5 x6 x7 x8 x9 x10 x11 x12 x13 x14 x15 x16 x17 x18 x19 x20 : Option Vl) : ∃ s', endX ((sem gls (callK gls ds (k+6)) (drT t__law_right 5)).s [some (.r 0), x1, x2, x3, x4, x5, x6, x7, x8, x9, x10, x11, x12, x13, x14, x15, x16, x17, some (.r 1), some (.p (.int (ldP ps : Nat))), x20] [q.o, .lp 0 (ps.map .int)]) = .ok (.p (.bool true)) s' ∧ ∃ l, s' = q.o :: l := by
  obtain ⟨v, hv, st', h1⟩ := c_racking k _ h.rk
  have a1 := fun s => callW_p1 (f := callK gls ds (k+6) 14) (m := false) (s := s) h1
  obtain ⟨y1, i1, e1, _⟩ := hv.hd h.ok
  obtain ⟨st2, h2⟩ : ∃ st', callK gls ds (k+6) 16 [.p (wsT ps), .p v] [] = .ok (.p (.bool true)) st' := by
    cases hv with
    | beg bs b a hh => exact c_shb k ps bs h.ok b a
    | load hh => exact c_shl k ps h.ok hh
    | oth w rest hw no hh => exact absurd (h.over.mpr no) (by omega)
  have a2 := fun s => callW_p2 (f := callK gls ds (k+6) 16) (m := false) (s := s) h2
  have ex : exB ps = decide (ldP ps ≤ 16) := by
    cases c : exB ps with
    | true => exact (decide_eq_true (h.load.mp (exB_iff.mp c))).symm
    | false => exact (decide_eq_false fun q => exB_no.mp c (h.load.mpr q)).symm
  have fz : biP .tuple [.list (ps.map .int)] = some (wsT ps) := rfl
  have dr : dd (.r 1) [q.o, .lp 0 (ps.map PyData.int)] = some (.list (ps.map .int)) := rfl
  have tt : cmpP .Is (.bool true) (.bool true) = some true := rfl
  have le16 : cmpP .LtE (.int (ldP ps : Nat)) (.int 16) = some (exB ps) := by
    rw [ex]
    show some (decide ((ldP ps : Int) ≤ 16)) = _
    congr 1
    by_cases c : ldP ps ≤ 16
    · rw [decide_eq_true c, decide_eq_true (by omega)]
    · rw [decide_eq_false c, decide_eq_false (by omega)]
  have bb : cmpP .Eq (.bool (exB ps)) (.bool (exB ps)) = some true := by rw [eqb]; cases exB ps <;> rfl
  have e0 : drT t__law_right 5 = .cons (sti t__law_right 5) (.cons (sti t__law_right 6) .nil) := rfl
  refine ⟨[q.o, .lp 0 (ps.map .int)], ?_, _, rfl⟩
  have b5 : (sem gls (callK gls ds (k+6)) (sti t__law_right 5)).s [some (.r 0), x1, x2, x3, x4, x5, x6, x7, x8, x9, x10, x11, x12, x13, x14, x15, x16, x17, some (.r 1), some (.p (.int (ldP ps : Nat))), x20] [q.o, .lp 0 (ps.map .int)] = .nx [some (.r 0), x1, x2, x3, x4, x5, x6, x7, x8, some (.p v), x10, x11, x12, x13, x14, x15, x16, x17, some (.r 1), some (.p (.int (ldP ps : Nat))), x20] [q.o, .lp 0 (ps.map .int)] := by
    simp [t__law_right, sti, dr, fz, a1]
  rw [e0]
  simp only [s_cons_s]
  rw [b5, th_nx]
  simp [t__law_right, sti, dr, fz, a2, i1, e1, le16, bb, tt, -c_le]
theorem c_right' (k : Nat) (p : Pot) (g : Gp 0 p) : ∃ (l : Sr) (q : Pot), callK gls ds (k+7) 24 [.r 0] [p.o] = .ok (.p (.bool true)) (q.o :: l) := by
  rw [callK_at (d := ⟨t__law_right, 1, 21⟩) rfl rfl]
  generalize hr : endX _ = r
  obtain ⟨z1, z2, z3, z4, z5, e⟩ : ∃ z1 z2 z3 z4 z5, t__law_right = .cons (.fo (.v 1 "lap" z1) (.rg (.cons (.c (.int 8) 0 z2) .nil) z3 z4) bdy z5) (drT t__law_right 1) := ⟨_, _, _, _, _, rfl⟩
  have LL := fun st => forL_inv (tg := kV 1) (b := (sem gls (callK gls ds (k + 6)) bdy).s) (fun (j : Nat) e s => ∃ y1 y2 y3 y4 y5 y6 y7 y8 y9 y10 y11 y12 y13 y14 y15 y16 y17 y18 y19 y20, ∃ (q : Pot), e = [some (.r 0), y1, y2, y3, y4, y5, y6, y7, y8, y9, y10, y11, y12, y13, y14, y15, y16, y17, y18, y19, y20] ∧ s = [q.o] ∧ Gp (20 * j) q) ((rng 0 1 8).map .p) 0 [some (.r 0), none, none, none, none, none, none, none, none, none, none, none, none, none, none, none, none, none, none, none, none] [p.o] ⟨_, _, _, _, _, _, _, _, _, _, _, _, _, _, _, _, _, _, _, _, p, rfl, rfl, g⟩ st
  obtain ⟨e', s', L1, L2⟩ := LL (by
    rintro j v e s hv ⟨x1, x2, x3, x4, x5, x6, x7, x8, x9, x10, x11, x12, x13, x14, x15, x16, x17, x18, x19, x20, q, rfl, rfl, hg⟩
    rw [Nat.zero_add] at hg
    rw [rng_eq, List.getElem?_map, List.getElem?_map] at hv
    have hj : j < 8 := by
      refine Nat.lt_of_not_le fun hh => ?_
      rw [List.getElem?_eq_none (by simpa using hh)] at hv
      cases hv
    rw [List.getElem?_range hj] at hv
    simp at hv
    subst hv
    obtain ⟨w1, w2, w3, w4, w5, w6, w7, w8, w9, w10, w11, w12, w13, w14, w15, w16, w17, w18, w19, w20, q2, e2, g2⟩ := lap k _ q hg (by omega) [] (some (.p (.int (j : Nat)))) x2 x3 x4 x5 x6 x7 x8 x9 x10 x11 x12 x13 x14 x15 x16 x17 x18 x19 x20
    refine ⟨_, _, rfl, _, _, e2, ?_⟩
    exact ⟨w1, w2, w3, w4, w5, w6, w7, w8, w9, w10, w11, w12, w13, w14, w15, w16, w17, w18, w19, w20, q2, rfl, rfl, g2.le (by omega)⟩)
  obtain ⟨x1, x2, x3, x4, x5, x6, x7, x8, x9, x10, x11, x12, x13, x14, x15, x16, x17, x18, x19, x20, q, rfl, rfl, hg⟩ := L2
  have rg : rgP [.int 8] = some (rng 0 1 8) := rgP_1 8 (by omega)
  rw [List.length_map, rng_ln] at hg
  obtain ⟨y16, y17, h1⟩ := nums k q [] x1 x2 x3 x4 x5 x6 x7 x8 x9 x10 x11 x12 x13 x14 x15 x16 x17 x18 x19 x20
  have h2 : (sem gls (callK gls ds (k+6)) (sti t__law_right 2)).s [some (.r 0), x1, x2, x3, x4, x5, x6, x7, x8, x9, x10, x11, x12, x13, x14, x15, y16, y17, x18, x19, x20] [q.o] = .nx [some (.r 0), x1, x2, x3, x4, x5, x6, x7, x8, x9, x10, x11, x12, x13, x14, x15, y16, y17, some (.r 1), x19, x20] [q.o, .lp 0 []] := by
    simp [t__law_right, sti]
  obtain ⟨y3, ps, q3, hp, g3, h3⟩ := pows k _ q hg (by omega) x1 x2 x3 x4 x5 x6 x7 x8 x9 x10 x11 x12 x13 x14 x15 y16 y17 x18 x19 x20
  have h4 := w_load k ps hp q3 x1 x2 y3 x4 x5 x6 x7 x8 x9 x10 x11 x12 x13 x14 x15 y16 y17 x18 x19 x20
  obtain ⟨s', h5, l, h6⟩ := w_end k ps hp q3 x1 x2 y3 x4 x5 x6 x7 x8 x9 x10 x11 x12 x13 x14 x15 y16 y17 x18 x19 x20
  have e0 : drT t__law_right 1 = .cons (sti t__law_right 1) (.cons (sti t__law_right 2) (.cons (sti t__law_right 3) (.cons (sti t__law_right 4) (drT t__law_right 5)))) := rfl
  have es0 : ([Vl.r 0].map some ++ List.replicate (21 - 1) none) = [some (.r 0), none, none, none, none, none, none, none, none, none, none, none, none, none, none, none, none, none, none, none, none] := rfl
  simp only [es0] at hr
  rw [e] at hr
  simp only [s_cons_s] at hr
  have f0 := fo_at (gl := gls) (F := callK gls ds (k+6)) (t := .fo (.v 1 "lap" z1) (.rg (.cons (.c (.int 8) 0 z2) .nil) z3 z4) bdy z5) (e := [some (.r 0), none, none, none, none, none, none, none, none, none, none, none, none, none, none, none, none, none, none, none, none]) (s := [p.o]) (s' := [p.o]) (vs := (rng 0 1 8).map .p) ⟨_, _, _, _, rfl⟩ (by
    simp [foi, rg])
  have f0 := f0.trans L1
  rw [f0, th_nx, e0] at hr
  simp only [s_cons_s] at hr
  rw [h1, th_nx, h2, th_nx, h3, th_nx, h4, th_nx] at hr
  rw [h5] at hr
  subst h6
  exact ⟨l, q3, hr.symm⟩
theorem hv0 (ns : List Int) : ∃ st', callK gls ds 12 25 [.p (.list (ns.map .int))] [] = .ok (.p (.bool true)) st' := by
  rw [callK_at (k := 11) (d := ⟨t_law, 1, 2⟩) rfl rfl]
  generalize hr : endX _ = r
  have a1 : ∀ s, callW (callK gls ds 11 20) false [.p (.list (ns.map .int)), .p (.int 3)] s = .ok (.p (.list (rng 0 1 (max 1 (min 3 (ns.map PyData.int).length))))) s := fun s => callW_p2 (f := callK gls ds 11 20) (m := false) (s := s) (c_cells 10 3 (by omega) (ns.map .int) [])
  have r2 := rng_eq (max 1 (min 3 (ns.map PyData.int).length)) 0
  simp [t_law, a1] at hr
  simp at r2
  rw [r2] at hr
  have hl : max 1 (min 3 ns.length) ≤ lim := by unfold lim; omega
  simp [hl, wipeE, Function.comp_def] at hr
  obtain ⟨ys, s', h1, h2, h3, h4⟩ := cpL_st (tg := kV 1) (cond := cnd (sem gls (callK gls ds 11) .nil)) (elt := (sem gls (callK gls ds 11) (match t_law with | .cons (.re (.bi _ _ (.cons (.cp _ x _ _ _ _ _ _) _) _ _) _) _ => x | t => t)).e) (e := [some (.p (.list (ns.map .int))), none]) (fun _ _ => True) (fun y => y = .bool true) ((List.range (max 1 (min 3 ns.length))).map fun j => .p (.int (j : Nat))) 0 [] trivial (by
    intro i v s hv _
    rw [List.getElem?_map] at hv
    obtain ⟨j, hj, rfl⟩ := Option.map_eq_some_iff.mp hv
    have hj := List.mem_range.mp (List.mem_of_getElem? hj)
    obtain ⟨p, h1, h2⟩ := c_pot 10 ns j (by omega)
    obtain ⟨l2, q, h3⟩ := c_right' 4 p h2
    have w1 : callW (callK gls ds 11 17) true [.p (.list (ns.map .int)), .p (.int (j : Nat))] s = .ok (.r s.length) (s ++ [p.o]) := by
      simp [callW, refs, inArgs, h1, back, Pot.o]
    have w2 : callW (callK gls ds 11 24) false [.r s.length] (s ++ [p.o]) = .ok (.p (.bool true)) ((s ++ [p.o]).set s.length q.o) := callW_r1 (by simp) (plain_o p) h3
    refine ⟨_, rfl, by simp, .bool true, (s ++ [p.o]).set s.length q.o, ?_, rfl, trivial⟩
    simp [t_law, w1, w2])
  simp [t_law] at h1
  have hy : ys = (List.replicate ys.length true).map PyData.bool := by
    rw [List.map_replicate]
    exact List.eq_replicate_iff.mpr ⟨rfl, h3⟩
  rw [hy] at h1
  rw [h1] at hr
  simp [-List.map_replicate] at hr
  exact ⟨_, hr.symm⟩
end K69
end
section
set_option linter.all false
namespace K69
open PySem Mi
theorem hv : ∀ ns : List Int, ns.length ≤ 63 → (∀ z ∈ ns, PySem.Builtin.Int.intBits z ≤ 1048576) → ∃ st', callK wd.gl ds 12 25 [.p (.list (ns.map .int))] [] = .ok (.p (.bool true)) st' := fun ns _ _ => hv0 ns
end K69
end
set_option Elab.async false
set_option linter.all false
set_option maxRecDepth 100000
set_option maxHeartbeats 0
namespace K69
open PySem Mi
abbrev top (i : Nat) : Stmt := PySem.Challenge.pw_pouredastold_k69_whole_rackings_halved_a.main.body.getD i (.Pass ⟨0, 0, 0, 0⟩)
theorem eb_is_int : L2.defBody (top 5) = toSs t_is_int := rfl
theorem hs_is_int : C8.scC ["value", "low", "high"] ["value", "low", "high"] (L2.defScope (top 5)) = true := by decide +kernel
theorem hw_is_int : (wf wd t_is_int ⟨["value", "low", "high"], L2.defScope (top 5), fun _ => true⟩).ss = true := by decide +kernel
theorem eb_are_ints : L2.defBody (top 6) = toSs t_are_ints := rfl
theorem hs_are_ints : C8.scC ["value", "low", "high", "one"] ["value", "low", "high"] (L2.defScope (top 6)) = true := by decide +kernel
theorem hw_are_ints : (wf wd t_are_ints ⟨["value", "low", "high", "one"], L2.defScope (top 6), fun _ => true⟩).ss = true := by decide +kernel
theorem eb_is_told : L2.defBody (top 7) = toSs t_is_told := rfl
theorem hs_is_told : C8.scC ["value", "sizes"] ["value", "sizes"] (L2.defScope (top 7)) = true := by decide +kernel
theorem hw_is_told : (wf wd t_is_told ⟨["value", "sizes"], L2.defScope (top 7), fun _ => true⟩).ss = true := by decide +kernel
theorem eb_are_rackings : L2.defBody (top 18) = toSs t_are_rackings := rfl
theorem hs_are_rackings : C8.scC ["value"] ["value"] (L2.defScope (top 18)) = true := by decide +kernel
theorem hw_are_rackings : (wf wd t_are_rackings ⟨["value"], L2.defScope (top 18), fun _ => true⟩).ss = true := by decide +kernel
theorem eb_look_at_rackings : L2.defBody (top 19) = toSs t_look_at_rackings := rfl
theorem hs_look_at_rackings : C8.scC ["every"] ["every"] (L2.defScope (top 19)) = true := by decide +kernel
theorem hw_look_at_rackings : (wf wd t_look_at_rackings ⟨["every"], L2.defScope (top 19), fun _ => true⟩).ss = true := by decide +kernel
theorem eb_are_begun : L2.defBody (top 20) = toSs t_are_begun := rfl
theorem hs_are_begun : C8.scC ["every", "value", "one", "last"] ["every", "value"] (L2.defScope (top 20)) = true := by decide +kernel
theorem hw_are_begun : (wf wd t_are_begun ⟨["every", "value", "one", "last"], L2.defScope (top 20), fun _ => true⟩).ss = true := by decide +kernel
theorem eb_common : L2.defBody (top 21) = toSs t_common := rfl
theorem hs_common : C8.scC ["one", "other"] ["one", "other"] (L2.defScope (top 21)) = true := by decide +kernel
theorem hw_common : (wf wd t_common ⟨["one", "other"], L2.defScope (top 21), fun _ => true⟩).ss = true := by decide +kernel
theorem eb_told_meet : L2.defBody (top 22) = toSs t_told_meet := rfl
theorem hs_told_meet : C8.scC ["first", "one", "second", "other"] ["first", "one", "second", "other"] (L2.defScope (top 22)) = true := by decide +kernel
theorem hw_told_meet : (wf wd t_told_meet ⟨["first", "one", "second", "other"], L2.defScope (top 22), fun _ => true⟩).ss = true := by decide +kernel
theorem eb_first_meeting : L2.defBody (top 23) = toSs t_first_meeting := rfl
theorem hs_first_meeting : C8.scC ["every", "begun", "found", "at", "day", "step", "spot", "both"] ["every", "begun"] (L2.defScope (top 23)) = true := by decide +kernel
theorem hw_first_meeting : (wf wd t_first_meeting ⟨["every", "begun", "found", "at", "day", "step", "spot", "both"], L2.defScope (top 23), fun _ => true⟩).ss = true := by decide +kernel
theorem eb_told_load : L2.defBody (top 24) = toSs t_told_load := rfl
theorem hs_told_load : C8.scC ["every", "top", "bottom", "step", "less"] ["every"] (L2.defScope (top 24)) = true := by decide +kernel
theorem hw_told_load : (wf wd t_told_load ⟨["every", "top", "bottom", "step", "less"], L2.defScope (top 24), fun _ => true⟩).ss = true := by decide +kernel
theorem eb_told_lot : L2.defBody (top 25) = toSs t_told_lot := rfl
theorem hs_told_lot : C8.scC ["every", "number", "lots", "at", "shared", "fit", "step", "lot", "one"] ["every"] (L2.defScope (top 25)) = true := by decide +kernel
theorem hw_told_lot : (wf wd t_told_lot ⟨["every", "number", "lots", "at", "shared", "fit", "step", "lot", "one"], L2.defScope (top 25), fun _ => true⟩).ss = true := by decide +kernel
theorem eb_told_begun : L2.defBody (top 26) = toSs t_told_begun := rfl
theorem hs_told_begun : C8.scC ["every", "at", "order", "days", "spot", "tried", "last", "fit", "step", "day"] ["every"] (L2.defScope (top 26)) = true := by decide +kernel
theorem hw_told_begun : (wf wd t_told_begun ⟨["every", "at", "order", "days", "spot", "tried", "last", "fit", "step", "day"], L2.defScope (top 26), fun _ => true⟩).ss = true := by decide +kernel
theorem eb_is_free : L2.defBody (top 27) = toSs t_is_free := rfl
theorem hs_is_free : C8.scC ["every", "days", "others", "at", "day", "other"] ["every", "days", "others", "at", "day"] (L2.defScope (top 27)) = true := by decide +kernel
theorem hw_is_free : (wf wd t_is_free ⟨["every", "days", "others", "at", "day", "other"], L2.defScope (top 27), fun _ => true⟩).ss = true := by decide +kernel
theorem eb_told_racking : L2.defBody (top 28) = toSs t_told_racking := rfl
theorem hs_told_racking : C8.scC ["every", "top", "bottom", "at", "spot", "found", "lot"] ["every"] (L2.defScope (top 28)) = true := by decide +kernel
theorem hw_told_racking : (wf wd t_told_racking ⟨["every", "top", "bottom", "at", "spot", "found", "lot"], L2.defScope (top 28), fun _ => true⟩).ss = true := by decide +kernel
theorem eb_racking : L2.defBody (top 29) = toSs t_racking := rfl
theorem hs_racking : C8.scC ["every"] ["every"] (L2.defScope (top 29)) = true := by decide +kernel
theorem hw_racking : (wf wd t_racking ⟨["every"], L2.defScope (top 29), fun _ => true⟩).ss = true := by decide +kernel
theorem eb_is_lot : L2.defBody (top 30) = toSs t_is_lot := rfl
theorem hs_is_lot : C8.scC ["every", "number", "lot", "one", "last", "other"] ["every", "number", "lot"] (L2.defScope (top 30)) = true := by decide +kernel
theorem hw_is_lot : (wf wd t_is_lot ⟨["every", "number", "lot", "one", "last", "other"], L2.defScope (top 30), fun _ => true⟩).ss = true := by decide +kernel
theorem eb_shows_racking : L2.defBody (top 31) = toSs t_shows_racking := rfl
theorem hs_shows_racking : C8.scC ["every", "value", "top", "bottom"] ["every", "value"] (L2.defScope (top 31)) = true := by decide +kernel
theorem hw_shows_racking : (wf wd t_shows_racking ⟨["every", "value", "top", "bottom"], L2.defScope (top 31), fun _ => true⟩).ss = true := by decide +kernel
theorem eb__law_pot : L2.defBody (top 33) = toSs t__law_pot := rfl
theorem hs__law_pot : C8.scC ["script", "place", "cell", "own", "small"] ["script", "place"] (L2.defScope (top 33)) = true := by decide +kernel
theorem hw__law_pot : (wf wd t__law_pot ⟨["script", "place", "cell", "own", "small"], L2.defScope (top 33), fun _ => true⟩).ss = true := by decide +kernel
theorem eb__law_take : L2.defBody (top 34) = toSs t__law_take := rfl
theorem hs__law_take : C8.scC ["pot", "upto", "digit", "prime", "blend"] ["pot", "upto"] (L2.defScope (top 34)) = true := by decide +kernel
theorem hw__law_take : (wf wd t__law_take ⟨["pot", "upto", "digit", "prime", "blend"], L2.defScope (top 34), fun _ => true⟩).ss = true := by decide +kernel
theorem eb__law_of : L2.defBody (top 35) = toSs t__law_of := rfl
theorem hs__law_of : C8.scC ["pot", "some"] ["pot", "some"] (L2.defScope (top 35)) = true := by decide +kernel
theorem hw__law_of : (wf wd t__law_of ⟨["pot", "some"], L2.defScope (top 35), fun _ => true⟩).ss = true := by decide +kernel
theorem eb__law_cells : L2.defBody (top 36) = toSs t__law_cells := rfl
theorem hs__law_cells : C8.scC ["script", "most"] ["script", "most"] (L2.defScope (top 36)) = true := by decide +kernel
theorem hw__law_cells : (wf wd t__law_cells ⟨["script", "most"], L2.defScope (top 36), fun _ => true⟩).ss = true := by decide +kernel
theorem eb__law_some : L2.defBody (top 37) = toSs t__law_some := rfl
theorem hs__law_some : C8.scC ["pot", "pool", "many", "rests", "found", "lap"] ["pot", "pool", "many"] (L2.defScope (top 37)) = true := by decide +kernel
theorem hw__law_some : (wf wd t__law_some ⟨["pot", "pool", "many", "rests", "found", "lap"], L2.defScope (top 37), fun _ => true⟩).ss = true := by decide +kernel
theorem eb__law_gcd : L2.defBody (top 38) = toSs t__law_gcd := rfl
theorem hs__law_gcd : C8.scC ["one", "other"] ["one", "other"] (L2.defScope (top 38)) = true := by decide +kernel
theorem hw__law_gcd : (wf wd t__law_gcd ⟨["one", "other"], L2.defScope (top 38), fun _ => true⟩).ss = true := by decide +kernel
theorem eb__law_meet : L2.defBody (top 39) = toSs t__law_meet := rfl
theorem hs__law_meet : C8.scC ["every", "begun", "at", "spot"] ["every", "begun"] (L2.defScope (top 39)) = true := by decide +kernel
theorem hw__law_meet : (wf wd t__law_meet ⟨["every", "begun", "at", "spot"], L2.defScope (top 39), fun _ => true⟩).ss = true := by decide +kernel
theorem eb__law_right : L2.defBody (top 40) = toSs t__law_right := rfl
theorem hs__law_right : C8.scC ["pot", "lap", "step", "cask", "every", "days", "begun", "on", "moved", "told", "at", "order", "less", "half", "two", "later", "number", "full", "powers", "load", "day"] ["pot"] (L2.defScope (top 40)) = true := by decide +kernel
theorem hw__law_right : (wf wd t__law_right ⟨["pot", "lap", "step", "cask", "every", "days", "begun", "on", "moved", "told", "at", "order", "less", "half", "two", "later", "number", "full", "powers", "load", "day"], L2.defScope (top 40), fun _ => true⟩).ss = true := by decide +kernel
theorem eb_law : L2.defBody (top 41) = toSs t_law := rfl
theorem hs_law : C8.scC ["script", "at"] ["script"] (L2.defScope (top 41)) = true := by decide +kernel
theorem hw_law : (wf wd t_law ⟨["script", "at"], L2.defScope (top 41), fun _ => true⟩).ss = true := by decide +kernel
theorem law_mk {K : Fg} {mg : Str → Option Value} {h : Heap} (X : K.In h) (G : h.Ns mainGlobals mg)
    {f0 : Addr} {od0 an0 : Option Addr} {sl0 : Array (Option Value)} {oc0 kV0 dc0 pm0 cd0 ct0 : Value} (a0 : PySem.W.nsIn K mainGlobals "is_int" = some (some (.ref f0))) (l0 : K.lookup f0 = some ⟨oc0, od0, .func (PySem.W.fnOf "is_int" "is_int" (L2.defArgs (top 5)) (L2.defBody (top 5)) (L2.defScope (top 5)) .none kV0 dc0 pm0 an0 cd0 ct0), sl0⟩) (c0 : PySem.W.codeIn K cd0 "is_int" = true) (k0 : PySem.W.keepIn K (.ref f0) = true)
    {f1 : Addr} {od1 an1 : Option Addr} {sl1 : Array (Option Value)} {oc1 kV1 dc1 pm1 cd1 ct1 : Value} (a1 : PySem.W.nsIn K mainGlobals "are_ints" = some (some (.ref f1))) (l1 : K.lookup f1 = some ⟨oc1, od1, .func (PySem.W.fnOf "are_ints" "are_ints" (L2.defArgs (top 6)) (L2.defBody (top 6)) (L2.defScope (top 6)) .none kV1 dc1 pm1 an1 cd1 ct1), sl1⟩) (c1 : PySem.W.codeIn K cd1 "are_ints" = true) (k1 : PySem.W.keepIn K (.ref f1) = true)
    {f2 : Addr} {od2 an2 : Option Addr} {sl2 : Array (Option Value)} {oc2 kV2 dc2 pm2 cd2 ct2 : Value} (a2 : PySem.W.nsIn K mainGlobals "is_told" = some (some (.ref f2))) (l2 : K.lookup f2 = some ⟨oc2, od2, .func (PySem.W.fnOf "is_told" "is_told" (L2.defArgs (top 7)) (L2.defBody (top 7)) (L2.defScope (top 7)) .none kV2 dc2 pm2 an2 cd2 ct2), sl2⟩) (c2 : PySem.W.codeIn K cd2 "is_told" = true) (k2 : PySem.W.keepIn K (.ref f2) = true)
    {f3 : Addr} {od3 an3 : Option Addr} {sl3 : Array (Option Value)} {oc3 kV3 dc3 pm3 cd3 ct3 : Value} (a3 : PySem.W.nsIn K mainGlobals "are_rackings" = some (some (.ref f3))) (l3 : K.lookup f3 = some ⟨oc3, od3, .func (PySem.W.fnOf "are_rackings" "are_rackings" (L2.defArgs (top 18)) (L2.defBody (top 18)) (L2.defScope (top 18)) .none kV3 dc3 pm3 an3 cd3 ct3), sl3⟩) (c3 : PySem.W.codeIn K cd3 "are_rackings" = true) (k3 : PySem.W.keepIn K (.ref f3) = true)
    {f4 : Addr} {od4 an4 : Option Addr} {sl4 : Array (Option Value)} {oc4 kV4 dc4 pm4 cd4 ct4 : Value} (a4 : PySem.W.nsIn K mainGlobals "look_at_rackings" = some (some (.ref f4))) (l4 : K.lookup f4 = some ⟨oc4, od4, .func (PySem.W.fnOf "look_at_rackings" "look_at_rackings" (L2.defArgs (top 19)) (L2.defBody (top 19)) (L2.defScope (top 19)) .none kV4 dc4 pm4 an4 cd4 ct4), sl4⟩) (c4 : PySem.W.codeIn K cd4 "look_at_rackings" = true) (k4 : PySem.W.keepIn K (.ref f4) = true)
    {f5 : Addr} {od5 an5 : Option Addr} {sl5 : Array (Option Value)} {oc5 kV5 dc5 pm5 cd5 ct5 : Value} (a5 : PySem.W.nsIn K mainGlobals "are_begun" = some (some (.ref f5))) (l5 : K.lookup f5 = some ⟨oc5, od5, .func (PySem.W.fnOf "are_begun" "are_begun" (L2.defArgs (top 20)) (L2.defBody (top 20)) (L2.defScope (top 20)) .none kV5 dc5 pm5 an5 cd5 ct5), sl5⟩) (c5 : PySem.W.codeIn K cd5 "are_begun" = true) (k5 : PySem.W.keepIn K (.ref f5) = true)
    {f6 : Addr} {od6 an6 : Option Addr} {sl6 : Array (Option Value)} {oc6 kV6 dc6 pm6 cd6 ct6 : Value} (a6 : PySem.W.nsIn K mainGlobals "common" = some (some (.ref f6))) (l6 : K.lookup f6 = some ⟨oc6, od6, .func (PySem.W.fnOf "common" "common" (L2.defArgs (top 21)) (L2.defBody (top 21)) (L2.defScope (top 21)) .none kV6 dc6 pm6 an6 cd6 ct6), sl6⟩) (c6 : PySem.W.codeIn K cd6 "common" = true) (k6 : PySem.W.keepIn K (.ref f6) = true)
    {f7 : Addr} {od7 an7 : Option Addr} {sl7 : Array (Option Value)} {oc7 kV7 dc7 pm7 cd7 ct7 : Value} (a7 : PySem.W.nsIn K mainGlobals "told_meet" = some (some (.ref f7))) (l7 : K.lookup f7 = some ⟨oc7, od7, .func (PySem.W.fnOf "told_meet" "told_meet" (L2.defArgs (top 22)) (L2.defBody (top 22)) (L2.defScope (top 22)) .none kV7 dc7 pm7 an7 cd7 ct7), sl7⟩) (c7 : PySem.W.codeIn K cd7 "told_meet" = true) (k7 : PySem.W.keepIn K (.ref f7) = true)
    {f8 : Addr} {od8 an8 : Option Addr} {sl8 : Array (Option Value)} {oc8 kV8 dc8 pm8 cd8 ct8 : Value} (a8 : PySem.W.nsIn K mainGlobals "first_meeting" = some (some (.ref f8))) (l8 : K.lookup f8 = some ⟨oc8, od8, .func (PySem.W.fnOf "first_meeting" "first_meeting" (L2.defArgs (top 23)) (L2.defBody (top 23)) (L2.defScope (top 23)) .none kV8 dc8 pm8 an8 cd8 ct8), sl8⟩) (c8 : PySem.W.codeIn K cd8 "first_meeting" = true) (k8 : PySem.W.keepIn K (.ref f8) = true)
    {f9 : Addr} {od9 an9 : Option Addr} {sl9 : Array (Option Value)} {oc9 kV9 dc9 pm9 cd9 ct9 : Value} (a9 : PySem.W.nsIn K mainGlobals "told_load" = some (some (.ref f9))) (l9 : K.lookup f9 = some ⟨oc9, od9, .func (PySem.W.fnOf "told_load" "told_load" (L2.defArgs (top 24)) (L2.defBody (top 24)) (L2.defScope (top 24)) .none kV9 dc9 pm9 an9 cd9 ct9), sl9⟩) (c9 : PySem.W.codeIn K cd9 "told_load" = true) (k9 : PySem.W.keepIn K (.ref f9) = true)
    {f10 : Addr} {od10 an10 : Option Addr} {sl10 : Array (Option Value)} {oc10 kV10 dc10 pm10 cd10 ct10 : Value} (a10 : PySem.W.nsIn K mainGlobals "told_lot" = some (some (.ref f10))) (l10 : K.lookup f10 = some ⟨oc10, od10, .func (PySem.W.fnOf "told_lot" "told_lot" (L2.defArgs (top 25)) (L2.defBody (top 25)) (L2.defScope (top 25)) .none kV10 dc10 pm10 an10 cd10 ct10), sl10⟩) (c10 : PySem.W.codeIn K cd10 "told_lot" = true) (k10 : PySem.W.keepIn K (.ref f10) = true)
    {f11 : Addr} {od11 an11 : Option Addr} {sl11 : Array (Option Value)} {oc11 kV11 dc11 pm11 cd11 ct11 : Value} (a11 : PySem.W.nsIn K mainGlobals "told_begun" = some (some (.ref f11))) (l11 : K.lookup f11 = some ⟨oc11, od11, .func (PySem.W.fnOf "told_begun" "told_begun" (L2.defArgs (top 26)) (L2.defBody (top 26)) (L2.defScope (top 26)) .none kV11 dc11 pm11 an11 cd11 ct11), sl11⟩) (c11 : PySem.W.codeIn K cd11 "told_begun" = true) (k11 : PySem.W.keepIn K (.ref f11) = true)
    {f12 : Addr} {od12 an12 : Option Addr} {sl12 : Array (Option Value)} {oc12 kV12 dc12 pm12 cd12 ct12 : Value} (a12 : PySem.W.nsIn K mainGlobals "is_free" = some (some (.ref f12))) (l12 : K.lookup f12 = some ⟨oc12, od12, .func (PySem.W.fnOf "is_free" "is_free" (L2.defArgs (top 27)) (L2.defBody (top 27)) (L2.defScope (top 27)) .none kV12 dc12 pm12 an12 cd12 ct12), sl12⟩) (c12 : PySem.W.codeIn K cd12 "is_free" = true) (k12 : PySem.W.keepIn K (.ref f12) = true)
    {f13 : Addr} {od13 an13 : Option Addr} {sl13 : Array (Option Value)} {oc13 kV13 dc13 pm13 cd13 ct13 : Value} (a13 : PySem.W.nsIn K mainGlobals "told_racking" = some (some (.ref f13))) (l13 : K.lookup f13 = some ⟨oc13, od13, .func (PySem.W.fnOf "told_racking" "told_racking" (L2.defArgs (top 28)) (L2.defBody (top 28)) (L2.defScope (top 28)) .none kV13 dc13 pm13 an13 cd13 ct13), sl13⟩) (c13 : PySem.W.codeIn K cd13 "told_racking" = true) (k13 : PySem.W.keepIn K (.ref f13) = true)
    {f14 : Addr} {od14 an14 : Option Addr} {sl14 : Array (Option Value)} {oc14 kV14 dc14 pm14 cd14 ct14 : Value} (a14 : PySem.W.nsIn K mainGlobals "racking" = some (some (.ref f14))) (l14 : K.lookup f14 = some ⟨oc14, od14, .func (PySem.W.fnOf "racking" "racking" (L2.defArgs (top 29)) (L2.defBody (top 29)) (L2.defScope (top 29)) .none kV14 dc14 pm14 an14 cd14 ct14), sl14⟩) (c14 : PySem.W.codeIn K cd14 "racking" = true) (k14 : PySem.W.keepIn K (.ref f14) = true)
    {f15 : Addr} {od15 an15 : Option Addr} {sl15 : Array (Option Value)} {oc15 kV15 dc15 pm15 cd15 ct15 : Value} (a15 : PySem.W.nsIn K mainGlobals "is_lot" = some (some (.ref f15))) (l15 : K.lookup f15 = some ⟨oc15, od15, .func (PySem.W.fnOf "is_lot" "is_lot" (L2.defArgs (top 30)) (L2.defBody (top 30)) (L2.defScope (top 30)) .none kV15 dc15 pm15 an15 cd15 ct15), sl15⟩) (c15 : PySem.W.codeIn K cd15 "is_lot" = true) (k15 : PySem.W.keepIn K (.ref f15) = true)
    {f16 : Addr} {od16 an16 : Option Addr} {sl16 : Array (Option Value)} {oc16 kV16 dc16 pm16 cd16 ct16 : Value} (a16 : PySem.W.nsIn K mainGlobals "shows_racking" = some (some (.ref f16))) (l16 : K.lookup f16 = some ⟨oc16, od16, .func (PySem.W.fnOf "shows_racking" "shows_racking" (L2.defArgs (top 31)) (L2.defBody (top 31)) (L2.defScope (top 31)) .none kV16 dc16 pm16 an16 cd16 ct16), sl16⟩) (c16 : PySem.W.codeIn K cd16 "shows_racking" = true) (k16 : PySem.W.keepIn K (.ref f16) = true)
    {f17 : Addr} {od17 an17 : Option Addr} {sl17 : Array (Option Value)} {oc17 kV17 dc17 pm17 cd17 ct17 : Value} (a17 : PySem.W.nsIn K mainGlobals "_law_pot" = some (some (.ref f17))) (l17 : K.lookup f17 = some ⟨oc17, od17, .func (PySem.W.fnOf "_law_pot" "_law_pot" (L2.defArgs (top 33)) (L2.defBody (top 33)) (L2.defScope (top 33)) .none kV17 dc17 pm17 an17 cd17 ct17), sl17⟩) (c17 : PySem.W.codeIn K cd17 "_law_pot" = true) (k17 : PySem.W.keepIn K (.ref f17) = true)
    {f18 : Addr} {od18 an18 : Option Addr} {sl18 : Array (Option Value)} {oc18 kV18 dc18 pm18 cd18 ct18 : Value} (a18 : PySem.W.nsIn K mainGlobals "_law_take" = some (some (.ref f18))) (l18 : K.lookup f18 = some ⟨oc18, od18, .func (PySem.W.fnOf "_law_take" "_law_take" (L2.defArgs (top 34)) (L2.defBody (top 34)) (L2.defScope (top 34)) .none kV18 dc18 pm18 an18 cd18 ct18), sl18⟩) (c18 : PySem.W.codeIn K cd18 "_law_take" = true) (k18 : PySem.W.keepIn K (.ref f18) = true)
    {f19 : Addr} {od19 an19 : Option Addr} {sl19 : Array (Option Value)} {oc19 kV19 dc19 pm19 cd19 ct19 : Value} (a19 : PySem.W.nsIn K mainGlobals "_law_of" = some (some (.ref f19))) (l19 : K.lookup f19 = some ⟨oc19, od19, .func (PySem.W.fnOf "_law_of" "_law_of" (L2.defArgs (top 35)) (L2.defBody (top 35)) (L2.defScope (top 35)) .none kV19 dc19 pm19 an19 cd19 ct19), sl19⟩) (c19 : PySem.W.codeIn K cd19 "_law_of" = true) (k19 : PySem.W.keepIn K (.ref f19) = true)
    {f20 : Addr} {od20 an20 : Option Addr} {sl20 : Array (Option Value)} {oc20 kV20 dc20 pm20 cd20 ct20 : Value} (a20 : PySem.W.nsIn K mainGlobals "_law_cells" = some (some (.ref f20))) (l20 : K.lookup f20 = some ⟨oc20, od20, .func (PySem.W.fnOf "_law_cells" "_law_cells" (L2.defArgs (top 36)) (L2.defBody (top 36)) (L2.defScope (top 36)) .none kV20 dc20 pm20 an20 cd20 ct20), sl20⟩) (c20 : PySem.W.codeIn K cd20 "_law_cells" = true) (k20 : PySem.W.keepIn K (.ref f20) = true)
    {f21 : Addr} {od21 an21 : Option Addr} {sl21 : Array (Option Value)} {oc21 kV21 dc21 pm21 cd21 ct21 : Value} (a21 : PySem.W.nsIn K mainGlobals "_law_some" = some (some (.ref f21))) (l21 : K.lookup f21 = some ⟨oc21, od21, .func (PySem.W.fnOf "_law_some" "_law_some" (L2.defArgs (top 37)) (L2.defBody (top 37)) (L2.defScope (top 37)) .none kV21 dc21 pm21 an21 cd21 ct21), sl21⟩) (c21 : PySem.W.codeIn K cd21 "_law_some" = true) (k21 : PySem.W.keepIn K (.ref f21) = true)
    {f22 : Addr} {od22 an22 : Option Addr} {sl22 : Array (Option Value)} {oc22 kV22 dc22 pm22 cd22 ct22 : Value} (a22 : PySem.W.nsIn K mainGlobals "_law_gcd" = some (some (.ref f22))) (l22 : K.lookup f22 = some ⟨oc22, od22, .func (PySem.W.fnOf "_law_gcd" "_law_gcd" (L2.defArgs (top 38)) (L2.defBody (top 38)) (L2.defScope (top 38)) .none kV22 dc22 pm22 an22 cd22 ct22), sl22⟩) (c22 : PySem.W.codeIn K cd22 "_law_gcd" = true) (k22 : PySem.W.keepIn K (.ref f22) = true)
    {f23 : Addr} {od23 an23 : Option Addr} {sl23 : Array (Option Value)} {oc23 kV23 dc23 pm23 cd23 ct23 : Value} (a23 : PySem.W.nsIn K mainGlobals "_law_meet" = some (some (.ref f23))) (l23 : K.lookup f23 = some ⟨oc23, od23, .func (PySem.W.fnOf "_law_meet" "_law_meet" (L2.defArgs (top 39)) (L2.defBody (top 39)) (L2.defScope (top 39)) .none kV23 dc23 pm23 an23 cd23 ct23), sl23⟩) (c23 : PySem.W.codeIn K cd23 "_law_meet" = true) (k23 : PySem.W.keepIn K (.ref f23) = true)
    {f24 : Addr} {od24 an24 : Option Addr} {sl24 : Array (Option Value)} {oc24 kV24 dc24 pm24 cd24 ct24 : Value} (a24 : PySem.W.nsIn K mainGlobals "_law_right" = some (some (.ref f24))) (l24 : K.lookup f24 = some ⟨oc24, od24, .func (PySem.W.fnOf "_law_right" "_law_right" (L2.defArgs (top 40)) (L2.defBody (top 40)) (L2.defScope (top 40)) .none kV24 dc24 pm24 an24 cd24 ct24), sl24⟩) (c24 : PySem.W.codeIn K cd24 "_law_right" = true) (k24 : PySem.W.keepIn K (.ref f24) = true)
    {f25 : Addr} {od25 an25 : Option Addr} {sl25 : Array (Option Value)} {oc25 kV25 dc25 pm25 cd25 ct25 : Value} (a25 : PySem.W.nsIn K mainGlobals "law" = some (some (.ref f25))) (l25 : K.lookup f25 = some ⟨oc25, od25, .func (PySem.W.fnOf "law" "law" (L2.defArgs (top 41)) (L2.defBody (top 41)) (L2.defScope (top 41)) .none kV25 dc25 pm25 an25 cd25 ct25), sl25⟩) (c25 : PySem.W.codeIn K cd25 "law" = true) (k25 : PySem.W.keepIn K (.ref f25) = true)
    {t0 : Tok} (g0 : PySem.W.nsIn K mainGlobals "MOST_EVERY" = some (some (.int 60 t0)))
    {t1 : Tok} (g1 : PySem.W.nsIn K mainGlobals "MOST_CASKS" = some (some (.int 12 t1)))
    {t2 : Tok} (g2 : PySem.W.nsIn K mainGlobals "MOST_TRIED" = some (some (.int 100000 t2)))
    {t3 : Tok} (g3 : PySem.W.nsIn K mainGlobals "LOAD" = some (some (.str "load" t3)))
    {t4 : Tok} (g4 : PySem.W.nsIn K mainGlobals "PAIR" = some (some (.str "pair" t4)))
    {t5 : Tok} (g5 : PySem.W.nsIn K mainGlobals "BEGIN" = some (some (.str "begin" t5)))
    {t6 : Tok} (g6 : PySem.W.nsIn K mainGlobals "LOT" = some (some (.str "lot" t6)))
    {t7 : Tok} (g7 : PySem.W.nsIn K mainGlobals "TRIED" = some (some (.str "tried" t7)))
    {t8 : Tok} (g8 : PySem.W.nsIn K mainGlobals "THREE" = some (some (.int 3 t8)))
    (n0 : PySem.W.nsIn K mainGlobals "len" = some none)
    (n1 : PySem.W.nsIn K mainGlobals "int" = some none)
    (n2 : PySem.W.nsIn K mainGlobals "abs" = some none)
    (n3 : PySem.W.nsIn K mainGlobals "max" = some none)
    (n4 : PySem.W.nsIn K mainGlobals "min" = some none)
    (n5 : PySem.W.nsIn K mainGlobals "sum" = some none)
    (n6 : PySem.W.nsIn K mainGlobals "all" = some none)
    (n7 : PySem.W.nsIn K mainGlobals "any" = some none)
    (n8 : PySem.W.nsIn K mainGlobals "tuple" = some none)
    (n9 : PySem.W.nsIn K mainGlobals "list" = some none)
    (n10 : PySem.W.nsIn K mainGlobals "sorted" = some none)
    (n11 : PySem.W.nsIn K mainGlobals "isinstance" = some none)
    (n12 : PySem.W.nsIn K mainGlobals "bool" = some none)
    (n13 : PySem.W.nsIn K mainGlobals "str" = some none)
    (n14 : PySem.W.nsIn K mainGlobals "dict" = some none)
    (n15 : PySem.W.nsIn K mainGlobals "range" = some none)
    (n16 : PySem.W.nsIn K mainGlobals "enumerate" = some none)
    (n17 : PySem.W.nsIn K mainGlobals "zip" = some none)
    (n18 : PySem.W.nsIn K mainGlobals "set" = some none)
    : Law wd ds K mg where
  gl := fun i x hx => by
    match i, hx with
    | 0, hx => cases hx; exact ⟨_, .int 60, _, PySem.W.mg_of X G g0, ⟨_, rfl⟩, rfl, fun m H => .int 60⟩
    | 1, hx => cases hx; exact ⟨_, .int 12, _, PySem.W.mg_of X G g1, ⟨_, rfl⟩, rfl, fun m H => .int 12⟩
    | 2, hx => cases hx; exact ⟨_, .int 100000, _, PySem.W.mg_of X G g2, ⟨_, rfl⟩, rfl, fun m H => .int 100000⟩
    | 3, hx => cases hx; exact ⟨_, .str "load", _, PySem.W.mg_of X G g3, ⟨_, rfl⟩, rfl, fun m H => .str "load"⟩
    | 4, hx => cases hx; exact ⟨_, .str "pair", _, PySem.W.mg_of X G g4, ⟨_, rfl⟩, rfl, fun m H => .str "pair"⟩
    | 5, hx => cases hx; exact ⟨_, .str "begin", _, PySem.W.mg_of X G g5, ⟨_, rfl⟩, rfl, fun m H => .str "begin"⟩
    | 6, hx => cases hx; exact ⟨_, .str "lot", _, PySem.W.mg_of X G g6, ⟨_, rfl⟩, rfl, fun m H => .str "lot"⟩
    | 7, hx => cases hx; exact ⟨_, .str "tried", _, PySem.W.mg_of X G g7, ⟨_, rfl⟩, rfl, fun m H => .str "tried"⟩
    | 8, hx => cases hx; exact ⟨_, .int 3, _, PySem.W.mg_of X G g8, ⟨_, rfl⟩, rfl, fun m H => .int 3⟩
    | i + 9, hx => simp [wd] at hx
  bn := fun x hx => by
    simp only [bnames, List.mem_cons, List.not_mem_nil, or_false] at hx
    rcases hx with rfl | rfl | rfl | rfl | rfl | rfl | rfl | rfl | rfl | rfl | rfl | rfl | rfl | rfl | rfl | rfl | rfl | rfl | rfl
    · exact PySem.W.mg_none_of X G n0
    · exact PySem.W.mg_none_of X G n1
    · exact PySem.W.mg_none_of X G n2
    · exact PySem.W.mg_none_of X G n3
    · exact PySem.W.mg_none_of X G n4
    · exact PySem.W.mg_none_of X G n5
    · exact PySem.W.mg_none_of X G n6
    · exact PySem.W.mg_none_of X G n7
    · exact PySem.W.mg_none_of X G n8
    · exact PySem.W.mg_none_of X G n9
    · exact PySem.W.mg_none_of X G n10
    · exact PySem.W.mg_none_of X G n11
    · exact PySem.W.mg_none_of X G n12
    · exact PySem.W.mg_none_of X G n13
    · exact PySem.W.mg_none_of X G n14
    · exact PySem.W.mg_none_of X G n15
    · exact PySem.W.mg_none_of X G n16
    · exact PySem.W.mg_none_of X G n17
    · exact PySem.W.mg_none_of X G n18
  df := fun i x hx => by
    match i, hx with
    | 0, hx => cases hx; exact ⟨_, rfl, df_mk X G a0 l0 c0 k0 eb_is_int hs_is_int rfl rfl hw_is_int fun _ _ _ _ _ _ us hl => match us, hl with | [_, _, _], _ => rfl⟩
    | 1, hx => cases hx; exact ⟨_, rfl, df_mk X G a1 l1 c1 k1 eb_are_ints hs_are_ints rfl rfl hw_are_ints fun _ _ _ _ _ _ us hl => match us, hl with | [_, _, _], _ => rfl⟩
    | 2, hx => cases hx; exact ⟨_, rfl, df_mk X G a2 l2 c2 k2 eb_is_told hs_is_told rfl rfl hw_is_told fun _ _ _ _ _ _ us hl => match us, hl with | [_, _], _ => rfl⟩
    | 3, hx => cases hx; exact ⟨_, rfl, df_mk X G a3 l3 c3 k3 eb_are_rackings hs_are_rackings rfl rfl hw_are_rackings fun _ _ _ _ _ _ us hl => match us, hl with | [_], _ => rfl⟩
    | 4, hx => cases hx; exact ⟨_, rfl, df_mk X G a4 l4 c4 k4 eb_look_at_rackings hs_look_at_rackings rfl rfl hw_look_at_rackings fun _ _ _ _ _ _ us hl => match us, hl with | [_], _ => rfl⟩
    | 5, hx => cases hx; exact ⟨_, rfl, df_mk X G a5 l5 c5 k5 eb_are_begun hs_are_begun rfl rfl hw_are_begun fun _ _ _ _ _ _ us hl => match us, hl with | [_, _], _ => rfl⟩
    | 6, hx => cases hx; exact ⟨_, rfl, df_mk X G a6 l6 c6 k6 eb_common hs_common rfl rfl hw_common fun _ _ _ _ _ _ us hl => match us, hl with | [_, _], _ => rfl⟩
    | 7, hx => cases hx; exact ⟨_, rfl, df_mk X G a7 l7 c7 k7 eb_told_meet hs_told_meet rfl rfl hw_told_meet fun _ _ _ _ _ _ us hl => match us, hl with | [_, _, _, _], _ => rfl⟩
    | 8, hx => cases hx; exact ⟨_, rfl, df_mk X G a8 l8 c8 k8 eb_first_meeting hs_first_meeting rfl rfl hw_first_meeting fun _ _ _ _ _ _ us hl => match us, hl with | [_, _], _ => rfl⟩
    | 9, hx => cases hx; exact ⟨_, rfl, df_mk X G a9 l9 c9 k9 eb_told_load hs_told_load rfl rfl hw_told_load fun _ _ _ _ _ _ us hl => match us, hl with | [_], _ => rfl⟩
    | 10, hx => cases hx; exact ⟨_, rfl, df_mk X G a10 l10 c10 k10 eb_told_lot hs_told_lot rfl rfl hw_told_lot fun _ _ _ _ _ _ us hl => match us, hl with | [_], _ => rfl⟩
    | 11, hx => cases hx; exact ⟨_, rfl, df_mk X G a11 l11 c11 k11 eb_told_begun hs_told_begun rfl rfl hw_told_begun fun _ _ _ _ _ _ us hl => match us, hl with | [_], _ => rfl⟩
    | 12, hx => cases hx; exact ⟨_, rfl, df_mk X G a12 l12 c12 k12 eb_is_free hs_is_free rfl rfl hw_is_free fun _ _ _ _ _ _ us hl => match us, hl with | [_, _, _, _, _], _ => rfl⟩
    | 13, hx => cases hx; exact ⟨_, rfl, df_mk X G a13 l13 c13 k13 eb_told_racking hs_told_racking rfl rfl hw_told_racking fun _ _ _ _ _ _ us hl => match us, hl with | [_], _ => rfl⟩
    | 14, hx => cases hx; exact ⟨_, rfl, df_mk X G a14 l14 c14 k14 eb_racking hs_racking rfl rfl hw_racking fun _ _ _ _ _ _ us hl => match us, hl with | [_], _ => rfl⟩
    | 15, hx => cases hx; exact ⟨_, rfl, df_mk X G a15 l15 c15 k15 eb_is_lot hs_is_lot rfl rfl hw_is_lot fun _ _ _ _ _ _ us hl => match us, hl with | [_, _, _], _ => rfl⟩
    | 16, hx => cases hx; exact ⟨_, rfl, df_mk X G a16 l16 c16 k16 eb_shows_racking hs_shows_racking rfl rfl hw_shows_racking fun _ _ _ _ _ _ us hl => match us, hl with | [_, _], _ => rfl⟩
    | 17, hx => cases hx; exact ⟨_, rfl, df_mk X G a17 l17 c17 k17 eb__law_pot hs__law_pot rfl rfl hw__law_pot fun _ _ _ _ _ _ us hl => match us, hl with | [_, _], _ => rfl⟩
    | 18, hx => cases hx; exact ⟨_, rfl, df_mk X G a18 l18 c18 k18 eb__law_take hs__law_take rfl rfl hw__law_take fun _ _ _ _ _ _ us hl => match us, hl with | [_, _], _ => rfl⟩
    | 19, hx => cases hx; exact ⟨_, rfl, df_mk X G a19 l19 c19 k19 eb__law_of hs__law_of rfl rfl hw__law_of fun _ _ _ _ _ _ us hl => match us, hl with | [_, _], _ => rfl⟩
    | 20, hx => cases hx; exact ⟨_, rfl, df_mk X G a20 l20 c20 k20 eb__law_cells hs__law_cells rfl rfl hw__law_cells fun _ _ _ _ _ _ us hl => match us, hl with | [_, _], _ => rfl⟩
    | 21, hx => cases hx; exact ⟨_, rfl, df_mk X G a21 l21 c21 k21 eb__law_some hs__law_some rfl rfl hw__law_some fun _ _ _ _ _ _ us hl => match us, hl with | [_, _, _], _ => rfl⟩
    | 22, hx => cases hx; exact ⟨_, rfl, df_mk X G a22 l22 c22 k22 eb__law_gcd hs__law_gcd rfl rfl hw__law_gcd fun _ _ _ _ _ _ us hl => match us, hl with | [_, _], _ => rfl⟩
    | 23, hx => cases hx; exact ⟨_, rfl, df_mk X G a23 l23 c23 k23 eb__law_meet hs__law_meet rfl rfl hw__law_meet fun _ _ _ _ _ _ us hl => match us, hl with | [_, _], _ => rfl⟩
    | 24, hx => cases hx; exact ⟨_, rfl, df_mk X G a24 l24 c24 k24 eb__law_right hs__law_right rfl rfl hw__law_right fun _ _ _ _ _ _ us hl => match us, hl with | [_], _ => rfl⟩
    | 25, hx => cases hx; exact ⟨_, rfl, df_mk X G a25 l25 c25 k25 eb_law hs_law rfl rfl hw_law fun _ _ _ _ _ _ us hl => match us, hl with | [_], _ => rfl⟩
    | i + 26, hx => simp [wd] at hx
end K69
open PySem PySem.W PyProof.Rows in
theorem PySem.Challenge.cw_pouredastold_k69_whole_rackings_halved_a_holds : PySem.Challenge.rw_pouredastold_k69_whole_rackings_halved_a.Holds := by
  w_on; o_law; k_head; (case hw => w_witness2)
  k_fill
  refine Mi.walk_m (l := PySem.Challenge.rw_pouredastold_k69_whole_rackings_halved_a) (k := 12) (i := 25) (w := K69.wd) (ds := K69.ds) rfl (by decide) rfl ⟨rfl, by decide, by decide⟩ rfl (fun w h Y => PySem.W.kIn_of Y) ?F K69.hv
  case F =>
    intro wd mg h X G XP
    refine' K69.law_mk X G ?za0 ?zl0 ?zc0 ?zk0 ?za1 ?zl1 ?zc1 ?zk1 ?za2 ?zl2 ?zc2 ?zk2 ?za3 ?zl3 ?zc3 ?zk3 ?za4 ?zl4 ?zc4 ?zk4 ?za5 ?zl5 ?zc5 ?zk5 ?za6 ?zl6 ?zc6 ?zk6 ?za7 ?zl7 ?zc7 ?zk7 ?za8 ?zl8 ?zc8 ?zk8 ?za9 ?zl9 ?zc9 ?zk9 ?za10 ?zl10 ?zc10 ?zk10 ?za11 ?zl11 ?zc11 ?zk11 ?za12 ?zl12 ?zc12 ?zk12 ?za13 ?zl13 ?zc13 ?zk13 ?za14 ?zl14 ?zc14 ?zk14 ?za15 ?zl15 ?zc15 ?zk15 ?za16 ?zl16 ?zc16 ?zk16 ?za17 ?zl17 ?zc17 ?zk17 ?za18 ?zl18 ?zc18 ?zk18 ?za19 ?zl19 ?zc19 ?zk19 ?za20 ?zl20 ?zc20 ?zk20 ?za21 ?zl21 ?zc21 ?zk21 ?za22 ?zl22 ?zc22 ?zk22 ?za23 ?zl23 ?zc23 ?zk23 ?za24 ?zl24 ?zc24 ?zk24 ?za25 ?zl25 ?zc25 ?zk25 ?zg0 ?zg1 ?zg2 ?zg3 ?zg4 ?zg5 ?zg6 ?zg7 ?zg8 ?zn0 ?zn1 ?zn2 ?zn3 ?zn4 ?zn5 ?zn6 ?zn7 ?zn8 ?zn9 ?zn10 ?zn11 ?zn12 ?zn13 ?zn14 ?zn15 ?zn16 ?zn17 ?zn18
    (case za0 => k_is)
    (case zl0 => k_is)
    (case zc0 => k_is)
    (case zk0 => k_is)
    (case za1 => k_is)
    (case zl1 => k_is)
    (case zc1 => k_is)
    (case zk1 => k_is)
    (case za2 => k_is)
    (case zl2 => k_is)
    (case zc2 => k_is)
    (case zk2 => k_is)
    (case za3 => k_is)
    (case zl3 => k_is)
    (case zc3 => k_is)
    (case zk3 => k_is)
    (case za4 => k_is)
    (case zl4 => k_is)
    (case zc4 => k_is)
    (case zk4 => k_is)
    (case za5 => k_is)
    (case zl5 => k_is)
    (case zc5 => k_is)
    (case zk5 => k_is)
    (case za6 => k_is)
    (case zl6 => k_is)
    (case zc6 => k_is)
    (case zk6 => k_is)
    (case za7 => k_is)
    (case zl7 => k_is)
    (case zc7 => k_is)
    (case zk7 => k_is)
    (case za8 => k_is)
    (case zl8 => k_is)
    (case zc8 => k_is)
    (case zk8 => k_is)
    (case za9 => k_is)
    (case zl9 => k_is)
    (case zc9 => k_is)
    (case zk9 => k_is)
    (case za10 => k_is)
    (case zl10 => k_is)
    (case zc10 => k_is)
    (case zk10 => k_is)
    (case za11 => k_is)
    (case zl11 => k_is)
    (case zc11 => k_is)
    (case zk11 => k_is)
    (case za12 => k_is)
    (case zl12 => k_is)
    (case zc12 => k_is)
    (case zk12 => k_is)
    (case za13 => k_is)
    (case zl13 => k_is)
    (case zc13 => k_is)
    (case zk13 => k_is)
    (case za14 => k_is)
    (case zl14 => k_is)
    (case zc14 => k_is)
    (case zk14 => k_is)
    (case za15 => k_is)
    (case zl15 => k_is)
    (case zc15 => k_is)
    (case zk15 => k_is)
    (case za16 => k_is)
    (case zl16 => k_is)
    (case zc16 => k_is)
    (case zk16 => k_is)
    (case za17 => k_is)
    (case zl17 => k_is)
    (case zc17 => k_is)
    (case zk17 => k_is)
    (case za18 => k_is)
    (case zl18 => k_is)
    (case zc18 => k_is)
    (case zk18 => k_is)
    (case za19 => k_is)
    (case zl19 => k_is)
    (case zc19 => k_is)
    (case zk19 => k_is)
    (case za20 => k_is)
    (case zl20 => k_is)
    (case zc20 => k_is)
    (case zk20 => k_is)
    (case za21 => k_is)
    (case zl21 => k_is)
    (case zc21 => k_is)
    (case zk21 => k_is)
    (case za22 => k_is)
    (case zl22 => k_is)
    (case zc22 => k_is)
    (case zk22 => k_is)
    (case za23 => k_is)
    (case zl23 => k_is)
    (case zc23 => k_is)
    (case zk23 => k_is)
    (case za24 => k_is)
    (case zl24 => k_is)
    (case zc24 => k_is)
    (case zk24 => k_is)
    (case za25 => k_is)
    (case zl25 => k_is)
    (case zc25 => k_is)
    (case zk25 => k_is)
    (case zg0 => k_is)
    (case zg1 => k_is)
    (case zg2 => k_is)
    (case zg3 => k_is)
    (case zg4 => k_is)
    (case zg5 => k_is)
    (case zg6 => k_is)
    (case zg7 => k_is)
    (case zg8 => k_is)
    (case zn0 => k_is)
    (case zn1 => k_is)
    (case zn2 => k_is)
    (case zn3 => k_is)
    (case zn4 => k_is)
    (case zn5 => k_is)
    (case zn6 => k_is)
    (case zn7 => k_is)
    (case zn8 => k_is)
    (case zn9 => k_is)
    (case zn10 => k_is)
    (case zn11 => k_is)
    (case zn12 => k_is)
    (case zn13 => k_is)
    (case zn14 => k_is)
    (case zn15 => k_is)
    (case zn16 => k_is)
    (case zn17 => k_is)
    (case zn18 => k_is)
