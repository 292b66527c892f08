import PyProof.Rows.All
import Wide.All
import OpenK.AllK
import Wide.FinOn
import HandS.ForMost
import HandS.Deep
import HandS.TupAny
import KE.SortData
import HandS.Exc
import HandS.ExcOwn
import HandS.ExcIs
import HandS.ExcValue
import HandS.IsInst
import HandS.TryOnly
import HandS.WordsExc
import HandS.Conv
import HandS.Rev
import HandS.Zip
import HandS.Wide
import PyProof.TupleOfSeq
import HandS.HeadHook1
import HandS.HeadWalk
import HandS.CallRecv
import KE.GoesEnum
import HandS.RevTup
import KE.KRevIter
import HandS.RevRange
import HandS.SetFor
import HandS.Sort
import PyProof.ExcBaseAll.ValueError
import HandS.More
import HandS.Small
import HandS.HeadHook2
import HandS.HeadEnd
import HandS.Defaults
import HandS.Head0
import HandS.Head1
import HandS.Head2
import HandS.Ends
import KE.KStateDown
import PySem.Challenge.RW_doingbook_k41_wanted
set_option Elab.async false
set_option linter.all false
set_option maxRecDepth 1000000
set_option maxHeartbeats 4000000
/-! A small language of plain data: what the program's defs compute, as a total function of lists and numbers. -/
namespace Dg
open PySem L2

/-- the largest length of a list, a tuple, a text -/
def LIM : Nat := 16777216
/-- a limit of turns of a while loop -/
def TURNS : Nat := 10 ^ 200

/-! ### data -/
inductive Dv where
  | non | bl (b : Bool) | int (i : Int) | str (s : Str) | tup (xs : List Dv) | lst (xs : List Dv)
  | dct (kvs : List (Dv × Dv)) | obj (C : Nat) (fs : List (Nat × Dv)) | exc (C : Nat) (at_ : Option Int)
/-- what a slot holds: shared data, or a container of its own (what it holds is shared); bw: lent by its owner -/
inductive Sv where
  | sh (d : Dv) | l1 (ds : List Dv) | d1 (kvs : List (Dv × Dv)) | o1 (C : Nat) (fs : List (Nat × Dv)) | l2 (dss : List (List Dv)) | bw (d : Dv)
  /-- a list that a caller lends to be changed -/
  | m1 (ds : List Dv)
def Sv.toD : Sv → Dv
  | .sh d => d
  | .l1 ds => .lst ds
  | .d1 kvs => .dct kvs
  | .o1 C fs => .obj C fs
  | .l2 dss => .lst (dss.map Dv.lst)
  | .bw d => d
  | .m1 ds => .lst ds
/-- as a value that may be held by anybody -/
def Sv.share : Sv → Option Dv
  | .bw _ => none
  | .l2 _ => none
  | .m1 _ => none
  | sv => some sv.toD
/-- read, not taken -/
def Sv.peek : Sv → Option Sv
  | .sh d => some (.sh d)
  | .l2 _ => none
  | sv => some (.bw sv.toD)
abbrev Env := List (Option Sv)
def slot : Env → Nat → Option Sv
  | [], _ => none
  | o :: _, 0 => o
  | _ :: r, i + 1 => slot r i

inductive Rs (α : Type) where
  | ok (a : α)
  | ex (C : Nat) (at_ : Option Int)
  | no
def Rs.bind {α β : Type} (r : Rs α) (f : α → Rs β) : Rs β := match r with
  | .ok a => f a
  | .ex C t => .ex C t
  | .no => .no
def ofO {α : Type} : Option α → Rs α
  | some a => .ok a
  | none => .no

/-! ### data as the library's data -/
mutual
def toP : Dv → PyData
  | .non => .none
  | .bl b => .bool b
  | .int i => .int i
  | .str s => .str s
  | .tup xs => .tuple (toPs xs)
  | .lst xs => .list (toPs xs)
  | .dct _ => .dict []
  | .obj _ _ => .dict []
  | .exc _ _ => .dict []
def toPs : List Dv → List PyData
  | [] => []
  | x :: xs => toP x :: toPs xs
end
/-- it may be compared by == -/
def okD (d : Dv) : Bool := SeqAt.shaped (toP d)
def eqD (a b : Dv) : Bool := PyData.eqv (toP a) (toP b)

/-! ### operators on data -/
def MulOk (i j : Int) : Prop := i.natAbs < 2 ^ 64 ∨ j.natAbs < 2 ^ 64 ∨ i.natAbs.log2 + j.natAbs.log2 < 1000000
instance (i j : Int) : Decidable (MulOk i j) := by unfold MulOk; infer_instance
def fdivD (i j : Int) : Int := if 0 ≤ j then i / j else i.fdiv j
def fmodD (i j : Int) : Int := if 0 ≤ j then i % j else i.fmod j
def binop : Operator → Dv → Dv → Rs Sv
  | .Add, .int i, .int j => .ok (.sh (.int (i + j)))
  | .Add, .str x, .str y => if x.length + y.length ≤ LIM then .ok (.sh (.str (x ++ y))) else .no
  | .Add, .tup x, .tup y => if x.length + y.length ≤ LIM then .ok (.sh (.tup (x ++ y))) else .no
  | .Add, .lst x, .lst y => if x.length + y.length ≤ LIM then .ok (.l1 (x ++ y)) else .no
  | .Sub, .int i, .int j => .ok (.sh (.int (i - j)))
  | .Mult, .int i, .int j => if MulOk i j then .ok (.sh (.int (i * j))) else .no
  | .Mult, .lst xs, .int k => if -(2 ^ 63) ≤ k ∧ k < 2 ^ 63 ∧ xs.length * k.toNat ≤ LIM then .ok (.l1 (List.replicate k.toNat xs).flatten) else .no
  | .FloorDiv, .int i, .int j => if j ≠ 0 ∧ j.natAbs.log2 < 9000 then .ok (.sh (.int (fdivD i j))) else .no
  | .Mod, .int i, .int j => if j ≠ 0 then .ok (.sh (.int (fmodD i j))) else .no
  | .Pow, .int i, .int j => if 0 ≤ j ∧ j ≤ 1000000 ∧ i.natAbs < 2 ^ 64 then .ok (.sh (.int (i ^ j.toNat))) else .no
  | .LShift, .int i, .int j => if 0 ≤ j ∧ j ≤ 1000000 ∧ i.natAbs < 2 ^ 64 then .ok (.sh (.int (i * 2 ^ j.toNat))) else .no
  | .RShift, .int i, .int j => if 0 ≤ j then .ok (.sh (.int (i / 2 ^ j.toNat))) else .no
  | .BitAnd, .int i, .int j => .ok (.sh (.int (Builtin.bitAnd i j)))
  | _, _, _ => .no
def intsOf : List Dv → Option (List Int)
  | [] => some []
  | .int i :: r => (intsOf r).map (i :: ·)
  | _ :: _ => none
/-- the key i of a dict of its own -/
def isKey (i : Int) : Dv → Bool
  | .int j => decide (j = i)
  | _ => false
def cmpop : CmpOp → Dv → Dv → Rs Bool
  | .Eq, a, b => if okD a && okD b then .ok (eqD a b) else .no
  | .NotEq, a, b => if okD a && okD b then .ok (!eqD a b) else .no
  | .Lt, .int i, .int j => .ok (decide (i < j))
  | .LtE, .int i, .int j => .ok (decide (i ≤ j))
  | .Gt, .int i, .int j => .ok (decide (j < i))
  | .GtE, .int i, .int j => .ok (decide (j ≤ i))
  | .In, a, .lst xs => if okD a && okD (.lst xs) then .ok (xs.any fun z => eqD z a) else .no
  | .In, a, .tup xs => if okD a && okD (.tup xs) then .ok (xs.any fun z => eqD z a) else .no
  | .NotIn, a, .lst xs => if okD a && okD (.lst xs) then .ok (!xs.any fun z => eqD z a) else .no
  | .NotIn, a, .tup xs => if okD a && okD (.tup xs) then .ok (!xs.any fun z => eqD z a) else .no
  | .In, .int i, .dct kvs => .ok (kvs.any fun p => isKey i p.1)
  | .NotIn, .int i, .dct kvs => .ok (!kvs.any fun p => isKey i p.1)
  | .Is, .non, .non => .ok true
  | .Is, .tup _, .non => .ok false
  | .Is, .lst _, .non => .ok false
  | .Is, .obj _ _, .non => .ok false
  | .Is, .exc _ _, .non => .ok false
  | .Is, .int _, .non => .ok false
  | .Is, .bl _, .non => .ok false
  | .Is, .str _, .non => .ok false
  | .IsNot, .non, .non => .ok false
  | .IsNot, .tup _, .non => .ok true
  | .IsNot, .lst _, .non => .ok true
  | .IsNot, .obj _ _, .non => .ok true
  | .IsNot, .exc _ _, .non => .ok true
  | .IsNot, .int _, .non => .ok true
  | .IsNot, .bl _, .non => .ok true
  | .IsNot, .str _, .non => .ok true
  | _, _, _ => .no
def index : Dv → Dv → Rs Dv
  | .lst xs, .int i => ofO (atI xs i)
  | .tup xs, .int i => ofO (atI xs i)
  | .str s, .int i => match atI s.cps.toList i with
    | some c => if s.length ≤ LIM then .ok (.str ⟨#[c]⟩) else .no
    | none => .no
  | _, _ => .no
def cutL {α : Type} (xs : List α) (lo hi : Option Int) : List α := (xs.drop (HT.sIx xs.length 0 lo)).take (HT.sIx xs.length xs.length hi - HT.sIx xs.length 0 lo)
def slice : Dv → Option Int → Option Int → Rs Sv
  | .lst xs, lo, hi => .ok (.l1 (cutL xs lo hi))
  | .tup xs, lo, hi => .ok (.sh (.tup (cutL xs lo hi)))
  | _, _, _ => .no
def field : Dv → Nat → Rs Dv
  | .obj _ fs, f => ofO (fs.lookup f)
  | .exc _ (some t), _ => .ok (.int t)
  | _, _ => .no
/-- the built-in functions that are served -/
inductive Bi where
  | len | abs | min2 | max2 | int | list | tuple | sorted | sum | min1 | max1 | all | any
  deriving DecidableEq
/-- the order of sorted, over data -/
def leD (a b : Dv) : Bool := !PySem.W.dataLt (toP b) (toP a)
/-- data that sorted takes: alike, and all tuples, not empty, or none a tuple -/
def sortOk (ds : List Dv) : Bool := (ds.all fun d => okD d) && (ds.all fun d => ds.all fun e => PySem.W.alike (toP d) (toP e)) &&
  ((ds.all fun d => match d with
    | .tup (_ :: _) => true
    | _ => false) || ds.all fun d => match d with
    | .tup _ => false
    | .non => false
    | _ => true)
def sorted1 (xs : List Dv) : Rs Sv := if sortOk xs then .ok (.l1 (xs.mergeSort leD)) else .no
def blsOf : List Dv → Option (List Bool)
  | [] => some []
  | .bl i :: r => (blsOf r).map (i :: ·)
  | _ :: _ => none
def maxI : List Int → Int
  | [] => 0
  | x :: r => r.foldl (fun a b => if b > a then b else a) x
def minI : List Int → Int
  | [] => 0
  | x :: r => r.foldl (fun a b => if b < a then b else a) x
def bcall : Bi → List Dv → Rs Sv
  | .len, [.lst xs] => .ok (.sh (.int xs.length))
  | .len, [.tup xs] => .ok (.sh (.int xs.length))
  | .len, [.str s] => if s.length ≤ LIM then .ok (.sh (.int s.length)) else .no
  | .abs, [.int i] => .ok (.sh (.int (if i < 0 then -i else i)))
  | .min2, [.int i, .int j] => .ok (.sh (.int (if j < i then j else i)))
  | .max2, [.int i, .int j] => .ok (.sh (.int (if j > i then j else i)))
  | .int, [.int i] => .ok (.sh (.int i))
  | .int, [.bl b] => .ok (.sh (.int (if b then 1 else 0)))
  | .list, [.lst xs] => .ok (.l1 xs)
  | .list, [.tup xs] => .ok (.l1 xs)
  | .tuple, [.lst xs] => .ok (.sh (.tup xs))
  | .tuple, [.tup xs] => .ok (.sh (.tup xs))
  | .sorted, [.lst xs] => sorted1 xs
  | .sorted, [.tup xs] => sorted1 xs
  | .sum, [.lst xs] => match intsOf xs with
    | some is => .ok (.sh (.int is.sum))
    | none => .no
  | .max1, [.lst xs] => match intsOf xs with
    | some (i :: r) => .ok (.sh (.int (maxI (i :: r))))
    | _ => .no
  | .min1, [.lst xs] => match intsOf xs with
    | some (i :: r) => .ok (.sh (.int (minI (i :: r))))
    | _ => .no
  | .all, [.lst xs] => match blsOf xs with
    | some is => .ok (.sh (.bl (is.all id)))
    | none => .no
  | .any, [.lst xs] => match blsOf xs with
    | some is => .ok (.sh (.bl (is.any id)))
    | none => .no
  | _, _ => .no

inductive Ty where
  | int | bool | str | tuple | list
  deriving DecidableEq
/-- isinstance of a built-in class -/
def tyIs : Ty → Dv → Rs Bool
  | .int, .int _ => .ok true
  | .int, .bl _ => .ok true
  | .int, .str _ => .ok false
  | .int, .tup _ => .ok false
  | .int, .lst _ => .ok false
  | .int, .non => .ok false
  | .bool, .bl _ => .ok true
  | .bool, .int _ => .ok false
  | .bool, .str _ => .ok false
  | .bool, .tup _ => .ok false
  | .bool, .lst _ => .ok false
  | .bool, .non => .ok false
  | .str, .str _ => .ok true
  | .str, .int _ => .ok false
  | .str, .bl _ => .ok false
  | .str, .tup _ => .ok false
  | .str, .lst _ => .ok false
  | .str, .non => .ok false
  | .tuple, .tup _ => .ok true
  | .tuple, .int _ => .ok false
  | .tuple, .bl _ => .ok false
  | .tuple, .str _ => .ok false
  | .tuple, .lst _ => .ok false
  | .tuple, .non => .ok false
  | .list, .lst _ => .ok true
  | .list, .int _ => .ok false
  | .list, .bl _ => .ok false
  | .list, .str _ => .ok false
  | .list, .tup _ => .ok false
  | .list, .non => .ok false
  | _, _ => .no

/-! ### the language -/
mutual
inductive Ex where
  | var (i : Nat) | cst (d : Dv)
  | bin (op : Operator) (a b : Ex) | neg (a : Ex)
  | cmp (op : CmpOp) (a b : Ex) | cmp2 (op op2 : CmpOp) (a b c : Ex)
  | and (a b : Ex) | or (a b : Ex) | not (a : Ex)
  | tup (es : Exs) | lst (es : Exs)
  | idx (a i : Ex) | slc (a : Ex) (lo hi : Ox)
  | fld (a : Ex) (f : Nat)
  | call (f : Nat) (es : Exs) | callB (f : Nat) (es : Exs) | make (C : Nat) (es : Exs) | meth (C f : Nat) (a : Ex) (es : Exs)
  | bc (id : Bi) (es : Exs)
  | rngL (a b : Ex) | rngT (a b : Ex) | revT (a : Ex) | revL (a : Ex) | revR (a : Ex) | lix (a : Ex) (es : Exs)
  | inR (neg : Bool) (a n : Ex) | lset (a : Ex) | sset (a : Ex) | dct0
  | comp (own : List Nat) (tg : Tg) (src : Src) (cond : Ox) (elt : Ex)
  | isa (a : Ex) (c : Nat) | isv (a : Ex) | isc (a : Ex) (c : Nat) | isty (a : Ex) (T : Ty)
inductive Exs where
  | nil | cons (e : Ex) (es : Exs)
inductive Ox where
  | non | som (e : Ex)
inductive Src where
  | seq (e : Ex) | rng1 (a : Ex) | rng2 (a b : Ex) | rngC (a b : Ex) (s : Int) | rng3 (a b c : Ex) | enum (e : Ex) | zip (a b : Ex) | rev (e : Ex)
/-- a target: one name (kept as its own where it is), several names, a, b = c, d is Stm.par -/
inductive Tg where
  | nm (i : Nat) (keep : Bool) | tp (is : List Nat)
end
/- expressions that take from a list of the frame -/
mutual
inductive Fx where
  | pu (e : Ex) | pop (i : Nat)
  | bin (op : Operator) (a b : Fx) | cmp (op : CmpOp) (a b : Fx)
  | tup (es : Fxs) | lst (es : Fxs)
  | idx (a b : Fx) | slh (a b : Fx)
  | callM (f k i : Nat) (es : Fxs) | call (f : Nat) (es : Fxs)
inductive Fxs where
  | nil | cons (e : Fx) (es : Fxs)
end
/-- what undoes lists that nobody reads any more -/
inductive Kx where
  | nop | seq (a b : Kx)
  | clr (i : Nat) (p : List Nat) | rev (i : Nat)
  | for (j i : Nat) (p : List Nat) (b : Kx)
  | ifl (i : Nat) (b : Kx) | ifb (i : Nat) (p : List Nat) (a b : Kx)
  | call (f i : Nat)
inductive Mop where
  | append | clear | reverse | insert
  deriving DecidableEq
/-- statements while a told value's lists are nobody else's -/
inductive Qs where
  | nil | asg (j : Nat) (a : Ex) (q : Qs) | ret (c a : Ex) (q : Qs)
mutual
inductive Stm where
  | asg (fz : List Nat) (tg : Tg) (e : Ex)
  | par (fz : List Nat) (i j : Nat) (a b : Ex)
  | aug (fz : List Nat) (i : Nat) (e : Ex)
  | setf (fz : List Nat) (f : Nat) (e : Ex)
  | seti (fz : List Nat) (i : Nat) (k e : Ex)
  | mut (fz : List Nat) (op : Mop) (i : Nat) (es : Exs)
  | ext (fz : List Nat) (i : Nat) (e : Ex)
  | app2 (fz : List Nat) (i : Nat) (k e : Ex)
  | new2 (fz : List Nat) (i : Nat) (own : List Nat) (tg : Tg) (a : Ex)
  | popA (fz : List Nat) (tg : Tg) (i : Nat) (ix : Ox)
  | expr (fz : List Nat) (e : Ex)
  | ret (fz : List Nat) (e : Ex) | retv (i : Nat) | retN
  | ite (fz : List Nat) (c : Ex) (a b : Blk)
  | whl (fz : List Nat) (c : Ex) (b : Blk)
  | for (fz : List Nat) (tg : Tg) (src : Src) (b : Blk)
  | pass | brk | cnt
  | rai (C : Nat) | nos
  | raiA (C : Nat) (e : Ex)
  | try_ (b : Blk) (C : Nat) (i j : Nat)
  | asgF (fz : List Nat) (tg : Tg) (m : Fx)
  | retF (fz : List Nat) (m : Fx)
  | iteF (fz : List Nat) (m : Fx) (a b : Blk)
  | forF (fz : List Nat) (tg : Tg) (m : Fx) (b : Blk)
  | forS (fz : List Nat) (tg : Tg) (m : Fx) (b : Blk)
  | rgn (b : Blk) (d : Kx)
  | lnd (i : Nat) (a : Ex) (C m j : Nat) (q : Qs) (d : Kx)
inductive Blk where
  | nil | cons (s : Stm) (b : Blk)
end

/-! ### evaluation -/
/-- the defs, one level of calls below -/
structure Cl where
  call : Nat → List Dv → Rs Sv
  make : Nat → List Dv → Rs Dv
  sub : Nat → Nat → Option Bool
  callM : Nat → Nat → List Dv → List Dv → Rs (Dv × List Dv)
  kf : Nat → Option Kx
def setsT : List Nat → List Dv → Env → Option Env
  | [], [], e => some e
  | i :: is, d :: ds, e => setsT is ds (e.set i (some (.sh d)))
  | _, _, _ => none
def bindD (tg : Tg) (d : Dv) (e : Env) : Option Env := match tg with
  | .nm i _ => some (e.set i (some (.sh d)))
  | .tp is => match d with
    | .tup ds => setsT is ds e
    | .lst ds => setsT is ds e
    | _ => none
def wipeE : List Nat → Env → Env
  | [], e => e
  | i :: is, e => (wipeE is e).set i none
def compI (f : Dv → Rs (Option Dv)) : List Dv → Rs (List Dv)
  | [] => .ok []
  | d :: r => (f d).bind fun o => (compI f r).bind fun ds => .ok (match o with
    | some x => x :: ds
    | none => ds)
def rngI (a b : Int) : List Dv := (List.range (b - a).toNat).map fun i => .int (a + (i : Nat))
def rngS (a s : Int) (n : Nat) : List Dv := (List.range n).map fun i => .int (a + (i : Nat) * s)
def enumI (k : Nat) : List Dv → List Dv
  | [] => []
  | d :: r => .tup [.int (k : Nat), d] :: enumI (k + 1) r
def zipI : List Dv → List Dv → List Dv
  | a :: r, b :: s => .tup [a, b] :: zipI r s
  | _, _ => []
def Dv.items : Dv → Option (List Dv)
  | .lst xs => some xs
  | .tup xs => some xs
  | _ => none
/-- what a loop goes through, a comprehension -/
def viewS (b : Bool) (x : Sv) : Option Dv := if b then x.share else some x.toD
/-- two lists, two tuples -/
def zip2 : Dv → Dv → Rs (List Dv)
  | .lst xs, .lst ys => .ok (zipI xs ys)
  | .tup xs, .tup ys => .ok (zipI xs ys)
  | _, _ => .no
/-- small enough for a range -/
def rOk (i : Int) : Prop := -(2 ^ 62) ≤ i ∧ i < 2 ^ 62
instance (i : Int) : Decidable (rOk i) := by unfold rOk; infer_instance

/-- l.index(x): the first place of an equal one -/
def lixD : Dv → List Dv → Rs Sv
  | .lst xs, [d] => if okD (.lst xs) && okD d then match xs.findIdx? fun z => eqD z d with
    | some j => .ok (.sh (.int (j : Nat)))
    | none => .no
    else .no
  | _, _ => .no
/-- no number twice -/
def ddI : List Int → List Int
  | [] => []
  | x :: r => if x ∈ r then ddI r else x :: ddI r
/-- len(set(x)), x some numbers -/
def lsetD (ds : List Dv) : Rs Sv := match intsOf ds with
  | some ns => if ns.length < 64 then .ok (.sh (.int (ddI ns).length)) else .no
  | none => .no
/-- sorted(set(x)), x a tuple of some numbers -/
def ssetD (ds : List Dv) : Rs Sv := match intsOf ds with
  | some ns => if ns.length < 64 then .ok (.l1 (((ddI ns).mergeSort fun i j => decide (i ≤ j)).map Dv.int)) else .no
  | none => .no
/-- a plain number, a truth, nothing: what a call that is only lent its lists may hand back -/
def scal : Sv → Rs Sv
  | .sh (.bl b) => .ok (.sh (.bl b))
  | .sh (.int i) => .ok (.sh (.int i))
  | .sh .non => .ok (.sh .non)
  | _ => .no

section
variable (cl : Cl)
mutual
def evalE : Ex → Env → Rs Sv
  | .var i, e => match slot e i with
    | some sv => ofO sv.peek
    | _ => .no
  | .cst d, _ => .ok (.sh d)
  | .bin op a b, e => (evalE a e).bind fun x => (evalE b e).bind fun y => binop op x.toD y.toD
  | .neg a, e => (evalE a e).bind fun x => match x.toD with
    | .int i => .ok (.sh (.int (-i)))
    | _ => .no
  | .cmp op a b, e => (evalE a e).bind fun x => (evalE b e).bind fun y => (cmpop op x.toD y.toD).bind fun k => .ok (.sh (.bl k))
  | .cmp2 op op2 a b c, e => (evalE a e).bind fun x => (evalE b e).bind fun y => (cmpop op x.toD y.toD).bind fun k =>
    if k then (evalE c e).bind fun z => (cmpop op2 y.toD z.toD).bind fun k2 => .ok (.sh (.bl k2)) else .ok (.sh (.bl false))
  | .and a b, e => (evalE a e).bind fun x => match x.toD with
    | .bl true => (evalE b e).bind fun y => match y.toD with
      | .bl k => .ok (.sh (.bl k))
      | _ => .no
    | .bl false => .ok (.sh (.bl false))
    | _ => .no
  | .or a b, e => (evalE a e).bind fun x => match x.toD with
    | .bl false => (evalE b e).bind fun y => match y.toD with
      | .bl k => .ok (.sh (.bl k))
      | _ => .no
    | .bl true => .ok (.sh (.bl true))
    | _ => .no
  | .not a, e => (evalE a e).bind fun x => match x.toD with
    | .bl k => .ok (.sh (.bl (!k)))
    | _ => .no
  | .tup es, e => (evalEs es e).bind fun ds => .ok (.sh (.tup ds))
  | .lst es, e => (evalEs es e).bind fun ds => .ok (.l1 ds)
  | .idx a i, e => (evalE a e).bind fun x => (evalE i e).bind fun y => (index x.toD y.toD).bind fun d => .ok (.sh d)
  | .slc a lo hi, e => (evalE a e).bind fun x => (evalO lo e).bind fun l => (evalO hi e).bind fun h => slice x.toD l h
  | .fld a f, e => (evalE a e).bind fun x => (field x.toD f).bind fun d => .ok (.sh d)
  | .call f es, e => (evalEs es e).bind fun ds => cl.call f ds
  | .callB f es, e => (evalBs es e).bind fun ds => (cl.call f ds).bind scal
  | .make C es, e => (evalEs es e).bind fun ds => (cl.make C ds).bind fun d => .ok (.sh d)
  | .meth C f a es, e => (evalE a e).bind fun x => match x with
    | .sh (.obj D fs) => if D = C then (evalEs es e).bind fun ds => cl.call f (.obj D fs :: ds) else .no
    | _ => .no
  | .bc id es, e => (evalBs es e).bind fun ds => bcall id ds
  | .rngL a b, e => (evalE a e).bind fun x => (evalE b e).bind fun y => match x.toD, y.toD with
    | .int i, .int j => if rOk i ∧ rOk j ∧ (j - i).toNat ≤ LIM then .ok (.l1 (rngI i j)) else .no
    | _, _ => .no
  | .rngT a b, e => (evalE a e).bind fun x => (evalE b e).bind fun y => match x.toD, y.toD with
    | .int i, .int j => if rOk i ∧ rOk j ∧ (j - i).toNat ≤ LIM then .ok (.sh (.tup (rngI i j))) else .no
    | _, _ => .no
  | .lix a es, e => (evalE a e).bind fun x => match x.toD with
    | .lst xs => (evalBs es e).bind fun ds => lixD (.lst xs) ds
    | _ => .no
  | .revT a, e => (evalE a e).bind fun x => match x.toD with
    | .lst xs => .ok (.sh (.tup xs.reverse))
    | .tup xs => .ok (.sh (.tup xs.reverse))
    | _ => .no
  | .revR a, e => (evalE a e).bind fun y => match y.toD with
    | .int j => if rOk j ∧ j.toNat ≤ LIM then .ok (.sh (.tup (rngI 0 j).reverse)) else .no
    | _ => .no
  | .revL a, e => (evalE a e).bind fun x => match x.toD with
    | .lst xs => .ok (.l1 xs.reverse)
    | _ => .no
  | .inR neg a n, e => (evalE a e).bind fun x => (evalE n e).bind fun y => match x.toD, y.toD with
    | .int i, .int j => .ok (.sh (.bl (if neg then !decide (0 ≤ i ∧ i < j) else decide (0 ≤ i ∧ i < j))))
    | _, _ => .no
  | .lset a, e => (evalE a e).bind fun x => match x.toD with
    | .lst xs => lsetD xs
    | .tup xs => lsetD xs
    | _ => .no
  | .sset a, e => (evalE a e).bind fun x => match x.toD with
    | .tup xs => ssetD xs
    | _ => .no
  | .dct0, _ => .ok (.d1 [])
  | .comp own tg src cond elt, e => match evalS false src e with
    | .ok ds => match compI (fun d => match bindD tg d (wipeE own e) with
        | some e1 => match evalC cond e1 with
          | .ok true => (evalE elt e1).bind fun x => (ofO x.share).bind fun y => .ok (some y)
          | .ok false => .ok none
          | _ => .no
        | none => .no) ds with
      | .ok xs => .ok (.l1 xs)
      | _ => .no
    | .ex C t => .ex C t
    | .no => .no
  | .isa a c, e => (evalE a e).bind fun x => match x.toD with
    | .exc C _ => (ofO (cl.sub C c)).bind fun k => .ok (.sh (.bl k))
    | _ => .no
  | .isv a, e => (evalE a e).bind fun x => match x.toD with
    | .exc C _ => (ofO (cl.sub C C)).bind fun _ => .ok (.sh (.bl true))
    | _ => .no
  | .isc a c, e => (evalE a e).bind fun x => match x.toD with
    | .obj D _ => if D = c then .ok (.sh (.bl true)) else .no
    | .non => .ok (.sh (.bl false))
    | _ => .no
  | .isty a T, e => (evalE a e).bind fun x => (tyIs T x.toD).bind fun k => .ok (.sh (.bl k))
def evalEs : Exs → Env → Rs (List Dv)
  | .nil, _ => .ok []
  | .cons a r, e => (evalE a e).bind fun x => (ofO x.share).bind fun d => (evalEs r e).bind fun ds => .ok (d :: ds)
def evalBs : Exs → Env → Rs (List Dv)
  | .nil, _ => .ok []
  | .cons a r, e => (evalE a e).bind fun x => (evalBs r e).bind fun ds => .ok (x.toD :: ds)
def evalO : Ox → Env → Rs (Option Int)
  | .non, _ => .ok none
  | .som a, e => (evalE a e).bind fun x => match x.toD with
    | .int i => .ok (some i)
    | _ => .no
def evalC : Ox → Env → Rs Bool
  | .non, _ => .ok true
  | .som a, e => (evalE a e).bind fun x => match x.toD with
    | .bl k => .ok k
    | _ => .no
def evalS : Bool → Src → Env → Rs (List Dv)
  | b, .seq a, e => (evalE a e).bind fun x => (ofO (viewS b x)).bind fun d => ofO d.items
  | _, .rng1 a, e => (evalE a e).bind fun x => match x.toD with
    | .int j => if rOk j ∧ j.toNat ≤ LIM then .ok (rngI 0 j) else .no
    | _ => .no
  | _, .rng2 a b, e => (evalE a e).bind fun x => (evalE b e).bind fun y => match x.toD, y.toD with
    | .int i, .int j => if rOk i ∧ rOk j ∧ (j - i).toNat ≤ LIM then .ok (rngI i j) else .no
    | _, _ => .no
  | _, .rngC a b s, e => (evalE a e).bind fun x => (evalE b e).bind fun y => match x.toD, y.toD with
    | .int i, .int j => if (s ≠ 0 ∧ s.natAbs < 1073741824 ∧ Builtin.Range.small i j s = true ∧ Builtin.Range.rangeSize i j s = ((Builtin.Range.rangeSize i j s).toNat : Int)) ∧ (Builtin.Range.rangeSize i j s).toNat ≤ LIM then .ok (rngS i s (Builtin.Range.rangeSize i j s).toNat) else .no
    | _, _ => .no
  | _, .rng3 a b c, e => (evalE a e).bind fun x => (evalE b e).bind fun y => (evalE c e).bind fun z => match x.toD, y.toD, z.toD with
    | .int i, .int j, .int s => if (s ≠ 0 ∧ s.natAbs < 1073741824 ∧ Builtin.Range.small i j s = true ∧ Builtin.Range.rangeSize i j s = ((Builtin.Range.rangeSize i j s).toNat : Int)) ∧ (Builtin.Range.rangeSize i j s).toNat ≤ LIM then .ok (rngS i s (Builtin.Range.rangeSize i j s).toNat) else .no
    | _, _, _ => .no
  | b, .enum a, e => (evalE a e).bind fun x => (ofO (viewS b x)).bind fun d => (ofO d.items).bind fun ds => .ok (enumI 0 ds)
  | k, .zip a b, e => (evalE a e).bind fun x => (evalE b e).bind fun y => (ofO (viewS k x)).bind fun c => (ofO (viewS k y)).bind fun d =>
    (zip2 c d).bind fun z => .ok z
  | b, .rev a, e => (evalE a e).bind fun x => (ofO (viewS b x)).bind fun d => (ofO d.items).bind fun ds => .ok ds.reverse
end
def evalT (c : Ex) (e : Env) : Rs Bool := (evalE cl c e).bind fun x => match x.toD with
  | .bl k => .ok k
  | _ => .no
end

/-! ### expressions that take from a list of the frame -/
def popI (xs : List Dv) : Option Int → Option (Dv × List Dv)
  | none => match xs[xs.length - 1]? with
    | some d => some (d, xs.dropLast)
    | none => none
  | some i => if -(2 ^ 63) ≤ i ∧ i < 2 ^ 63 then match ixN xs.length i with
    | some k => match xs[k]? with
      | some d => some (d, xs.eraseIdx k)
      | none => none
    | none => none else none
/-- a list of the frame, its own or lent to be changed -/
def takeM (e : Env) (i : Nat) : Option (List Dv) := match slot e i with
  | some (.l1 xs) => some xs
  | some (.m1 xs) => some xs
  | _ => none
def putM (e : Env) (i : Nat) (ys : List Dv) : Env := match slot e i with
  | some (.m1 _) => e.set i (some (.m1 ys))
  | _ => e.set i (some (.l1 ys))
def sharedR (r : Rs Sv) (e : Env) : Rs (Dv × Env) := match r with
  | .ok sv => match sv.share with
    | some d => .ok (d, e)
    | none => .no
  | _ => .no
section
variable (cl : Cl)
mutual
def evalF : Fx → Env → Rs (Dv × Env)
  | .pu a, e => sharedR (evalE cl a e) e
  | .pop i, e => match takeM e i with
    | some xs => match popI xs none with
      | some (d, ys) => .ok (d, putM e i ys)
      | none => .no
    | none => .no
  | .bin op a b, e => (evalF a e).bind fun x => (evalF b x.2).bind fun y => sharedR (binop op x.1 y.1) y.2
  | .cmp op a b, e => (evalF a e).bind fun x => (evalF b x.2).bind fun y => (cmpop op x.1 y.1).bind fun k => .ok (.bl k, y.2)
  | .tup es, e => (evalFs es e).bind fun x => .ok (.tup x.1, x.2)
  | .lst es, e => (evalFs es e).bind fun x => .ok (.lst x.1, x.2)
  | .idx a b, e => (evalF a e).bind fun x => (evalF b x.2).bind fun y => (index x.1 y.1).bind fun d => .ok (d, y.2)
  | .slh a b, e => (evalF a e).bind fun x => (evalF b x.2).bind fun y => match y.1 with
    | .int i => sharedR (slice x.1 none (some i)) y.2
    | _ => .no
  | .callM f k i es, e => (evalFs es e).bind fun x => match takeM x.2 i with
    | some xs => (cl.callM f k x.1 xs).bind fun r => .ok (r.1, putM x.2 i r.2)
    | none => .no
  | .call f es, e => (evalFs es e).bind fun x => sharedR (cl.call f x.1) x.2
def evalFs : Fxs → Env → Rs (List Dv × Env)
  | .nil, e => .ok ([], e)
  | .cons a r, e => (evalF a e).bind fun x => (evalFs r x.2).bind fun y => .ok (x.1 :: y.1, y.2)
end
end

/-! ### what undoes lists -/
/- data without a list, a dict -/
mutual
def noL : Dv → Bool
  | .non => true
  | .bl _ => true
  | .int _ => true
  | .str _ => true
  | .tup xs => noLs xs
  | .lst _ => false
  | .dct _ => false
  | .obj _ fs => noLf fs
  | .exc _ _ => true
def noLs : List Dv → Bool
  | [] => true
  | x :: r => noL x && noLs r
def noLf : List (Nat × Dv) → Bool
  | [] => true
  | (_, x) :: r => noL x && noLf r
end
def noLE : Env → Env
  | [] => []
  | some (.sh d) :: r => (if noL d then some (.sh d) else none) :: noLE r
  | _ :: r => none :: noLE r
/-- the part at a place; b: lists may be gone through, too -/
def partK (b : Bool) : List Nat → Dv → Option Dv
  | [], d => some d
  | k :: p, .tup ds => match ds[k]? with
    | some d => partK b p d
    | none => none
  | k :: p, .lst ds => if b then match ds[k]? with
    | some d => partK b p d
    | none => none else none
  | _, _ => none
def atK (b : Bool) (v : Nat → Option Dv) (i : Nat) (p : List Nat) : Option Dv := match v i with
  | some d => partK b p d
  | none => none
def setK (v : Nat → Option Dv) (j : Nat) (d : Dv) : Nat → Option Dv := fun i => if i = j then some d else v i
def tgK : Kx → List Nat
  | .nop => []
  | .seq a b => tgK a ++ tgK b
  | .clr _ _ => []
  | .rev _ => []
  | .for j _ _ b => j :: tgK b
  | .ifl _ b => tgK b
  | .ifb _ _ a b => tgK a ++ tgK b
  | .call _ _ => []
def dropK (l : List Nat) (v : Nat → Option Dv) (i : Nat) : Option Dv := if l.contains i then none else v i
/-- it may be done; b: nothing has been undone yet; c: calls -/
def okK (c : Nat → Bool → Dv → Bool) : Bool → Kx → (Nat → Option Dv) → Bool
  | _, .nop, _ => true
  | b, .seq x y, v => okK c b x v && okK c false y (dropK (tgK x) v)
  | b, .clr i p, v => match atK b v i p with
    | some (.lst _) => true
    | _ => false
  | b, .rev i, v => match atK b v i [] with
    | some (.lst _) => true
    | _ => false
  | b, .for j i p x, v => match atK b v i p with
    | some (.lst ds) => ds.all fun d => okK c false x (setK (dropK (tgK x) v) j d)
    | some (.tup ds) => ds.all fun d => okK c false x (setK (dropK (tgK x) v) j d)
    | _ => false
  | b, .ifl i x, v => match atK b v i [] with
    | some (.lst _) => okK c b x v
    | some (.tup _) => true
    | _ => false
  | b, .ifb i p x y, v => match atK b v i p with
    | some (.bl true) => okK c b x v
    | some (.bl false) => okK c b y v
    | _ => false
  | b, .call f i, v => match v i with
    | some d => c f b d
    | none => false
def oneK (d : Dv) (j : Nat) : Option Dv := if j = 0 then some d else none
def callK (kf : Nat → Option Kx) (f : Nat) (b : Bool) (d : Dv) : Bool := match kf f with
  | some x => okK (fun _ _ _ => false) b x (oneK d)
  | none => false
def viewK (e : Env) (i : Nat) : Option Dv := match slot e i with
  | some (.sh d) => some d
  | _ => none

/-! ### statements -/
inductive Rt where
  | nx (e : Env) | rt (v : Sv) (e : Env) | bk (e : Env) | ct (e : Env) | ex (C : Nat) (at_ : Option Int) (e : Env) | no
/-- a value in a frame, or the exception with the frame -/
def Rs.inE {α : Type} (r : Rs α) (e : Env) (f : α → Rt) : Rt := match r with
  | .ok a => f a
  | .ex C t => .ex C t e
  | .no => .no
def Rt.then (r : Rt) (f : Env → Rt) : Rt := match r with
  | .nx e => f e
  | r => r
def frz : List Nat → Env → Env
  | [], e => e
  | i :: is, e => frz is (match slot e i with
    | some (.l1 ds) => e.set i (some (.sh (.lst ds)))
    | some (.l2 dss) => e.set i (some (.sh (.lst (dss.map Dv.lst))))
    | _ => e)
def bindS (tg : Tg) (sv : Sv) (e : Env) : Option Env := match tg with
  | .nm i true => match sv with
    | .bw _ => none
    | sv => some (e.set i (some sv))
  | tg => match sv.share with
    | some d => bindD tg d e
    | none => none
def whileI (c : Env → Rs Bool) (b : Env → Rt) (fz : List Nat) : Nat → Env → Rt
  | 0, _ => .no
  | n + 1, e => (c (frz fz e)).inE (frz fz e) fun k => if k then (match b (frz fz e) with
      | .nx e1 => whileI c b fz n e1
      | .ct e1 => whileI c b fz n e1
      | .bk e1 => .nx e1
      | r => r) else .nx (frz fz e)
def forI (tg : Tg) (b : Env → Rt) : List Dv → Env → Rt
  | [], e => .nx e
  | d :: r, e => match bindD tg d e with
    | none => .no
    | some e1 => match b e1 with
      | .nx e2 => forI tg b r e2
      | .ct e2 => forI tg b r e2
      | .bk e2 => .nx e2
      | r => r
def putD (f : Nat) (v : Dv) : List (Nat × Dv) → List (Nat × Dv)
  | [] => [(f, v)]
  | (g, w) :: r => if g = f then (f, v) :: r else (g, w) :: putD f v r
def putI (i : Int) (v : Dv) (kvs : List (Dv × Dv)) : List (Dv × Dv) :=
  if (kvs.any fun p => isKey i p.1) = true then kvs.map (fun p => if isKey i p.1 then (p.1, v) else p) else kvs ++ [(.int i, v)]
/-- what a method does to a list of its own, and what it hands back -/
def mutate : Mop → List Dv → List Dv → Rs (List Dv)
  | .append, xs, [d] => if xs.length < LIM then .ok (xs ++ [d]) else .no
  | .insert, xs, [.int i, d] => if xs.length < LIM ∧ 0 ≤ i ∧ i < 2 ^ 63 then .ok (xs.take i.toNat ++ [d] ++ xs.drop i.toNat) else .no
  | .clear, _, [] => .ok []
  | .reverse, xs, [] => .ok xs.reverse
  | _, _, _ => .no
/-- nothing in the frame is its own -/
def shE : Env → Bool
  | [] => true
  | none :: r => shE r
  | some (.sh _) :: r => shE r
  | _ :: _ => false
def lndE (i : Nat) (o : Option Dv) (e : Env) : Env := match o with
  | some d => e.set i (some (.sh d))
  | none => e
def runQ (cl : Cl) (i : Nat) (o : Option Dv) : Qs → Env → Rt
  | .nil, e => .nx e
  | .asg j a q, e => match evalE cl a e with
    | .ok (.sh d) => runQ cl i o q (e.set j (some (.sh d)))
    | .ex C t => .ex C t e
    | _ => .no
  | .ret c a q, e => match evalT cl c (lndE i o e) with
    | .ok true => (match evalE cl a e with
      | .ok (.sh d) => .rt (.sh d) e
      | .ex C t => .ex C t e
      | _ => .no)
    | .ok false => runQ cl i o q e
    | .ex C t => .ex C t e
    | .no => .no
section
variable (cl : Cl)
mutual
def execS : Stm → Env → Rt
  | .asg fz tg a, e => (evalE cl a (frz fz e)).inE (frz fz e) fun x => match bindS tg x (frz fz e) with
    | some e1 => .nx e1
    | none => .no
  | .par fz i j a b, e => (evalEs cl (.cons a (.cons b .nil)) (frz fz e)).inE (frz fz e) fun ds => match ds with
    | [x, y] => .nx (((frz fz e).set i (some (.sh x))).set j (some (.sh y)))
    | _ => .no
  | .aug fz i a, e => match slot (frz fz e) i with
    | some (.sh (.int x)) => (evalE cl a (frz fz e)).inE (frz fz e) fun y => match y.toD with
      | .int y => .nx ((frz fz e).set i (some (.sh (.int (x + y)))))
      | _ => .no
    | _ => .no
  | .setf fz f a, e => (evalE cl a (frz fz e)).inE (frz fz e) fun x => match x.share, slot (frz fz e) 0 with
    | some d, some (.o1 C fs) => if fs.length < 999 then .nx ((frz fz e).set 0 (some (.o1 C (putD f d fs)))) else .no
    | _, _ => .no
  | .seti fz i k a, e => match slot (frz fz e) i with
    | some (.l1 ds) => (evalE cl a (frz fz e)).inE (frz fz e) fun x => match x.share with
      | some d => (evalE cl k (frz fz e)).inE (frz fz e) fun y => match y.toD with
        | .int j => match ixN ds.length j with
          | some p => .nx ((frz fz e).set i (some (.l1 (ds.set p d))))
          | none => .no
        | _ => .no
      | none => .no
    | some (.d1 kvs) => (evalE cl a (frz fz e)).inE (frz fz e) fun x => match x.share with
      | some d => (evalE cl k (frz fz e)).inE (frz fz e) fun y => match y.toD with
        | .int j => if kvs.length < LIM then .nx ((frz fz e).set i (some (.d1 (putI j d kvs)))) else .no
        | _ => .no
      | none => .no
    | _ => .no
  | .mut fz op i es, e => match slot (frz fz e) i with
    | some (.l1 xs) => (evalEs cl es (frz fz e)).inE (frz fz e) fun ds => match mutate op xs ds with
      | .ok ys => .nx ((frz fz e).set i (some (.l1 ys)))
      | _ => .no
    | _ => .no
  | .ext fz i a, e => match slot (frz fz e) i with
    | some (.l1 xs) => (evalE cl a (frz fz e)).inE (frz fz e) fun x => match x with
      | .l1 ys => if xs.length + ys.length ≤ LIM then .nx ((frz fz e).set i (some (.l1 (xs ++ ys)))) else .no
      | _ => .no
    | _ => .no
  | .app2 fz i k a, e => match slot (frz fz e) i with
    | some (.l2 dss) => (evalE cl k (frz fz e)).inE (frz fz e) fun y => match y.toD with
      | .int j => match ixN dss.length j with
        | some p => match dss[p]? with
          | some ds => (evalE cl a (frz fz e)).inE (frz fz e) fun x => match x.share with
            | some d => if ds.length < LIM then .nx ((frz fz e).set i (some (.l2 (dss.set p (ds ++ [d]))))) else .no
            | none => .no
          | none => .no
        | none => .no
      | _ => .no
    | _ => .no
  | .new2 fz i own tg a, e => (evalE cl a (frz fz e)).inE (frz fz e) fun x => match x.toD with
    | .int j => if rOk j ∧ j.toNat ≤ LIM then .nx ((frz fz e).set i (some (.l2 (List.replicate j.toNat [])))) else .no
    | _ => .no
  | .popA fz tg i ix, e => match slot (frz fz e) i with
    | some (.l1 xs) => (evalO cl ix (frz fz e)).inE (frz fz e) fun o => match popI xs o with
      | some (d, ys) => match bindD tg d ((frz fz e).set i (some (.l1 ys))) with
        | some e1 => .nx e1
        | none => .no
      | none => .no
    | _ => .no
  | .expr fz a, e => (evalE cl a (frz fz e)).inE (frz fz e) fun _ => .nx (frz fz e)
  | .ret fz a, e => (evalE cl a (frz fz e)).inE (frz fz e) fun x => match x with
    | .bw _ => .no
    | x => .rt x (frz fz e)
  | .retv i, e => match slot e i with
    | some sv => .rt sv (e.set i none)
    | _ => .no
  | .retN, e => .rt (.sh .non) e
  | .ite fz c a b, e => (evalT cl c (frz fz e)).inE (frz fz e) fun k => if k then execB a (frz fz e) else execB b (frz fz e)
  | .whl fz c b, e => whileI (evalT cl c) (execB b) fz TURNS e
  | .for fz tg src b, e => (evalS cl true src (frz fz e)).inE (frz fz e) fun ds => forI tg (execB b) ds (frz fz e)
  | .pass, e => .nx e
  | .brk, e => .bk e
  | .cnt, e => .ct e
  | .nos, _ => .no
  | .rai C, e => match cl.sub C C with
    | some _ => .ex C none e
    | none => .no
  | .raiA C a, e => (evalE cl a e).inE e fun x => match x.toD with
    | .int t => .ex C (some t) e
    | _ => .no
  | .try_ b C i j, e => match execB b e with
    | .ex D none e1 => match cl.sub D C with
      | some true => .nx ((e1.set i none).set j (some (.sh (.exc D none))))
      | some false => .ex D none e1
      | none => .no
    | .ex _ (some _) _ => .no
    | r => r
  | .asgF fz tg m, e => match evalF cl m (frz fz e) with
    | .ok (d, e1) => match bindD tg d e1 with
      | some e2 => .nx e2
      | none => .no
    | _ => .no
  | .retF fz m, e => match evalF cl m (frz fz e) with
    | .ok (d, e1) => .rt (.sh d) e1
    | _ => .no
  | .iteF fz m a b, e => match evalF cl m (frz fz e) with
    | .ok (.bl k, e1) => if k then execB a e1 else execB b e1
    | _ => .no
  | .forF fz tg m b, e => match evalF cl m (frz fz e) with
    | .ok (.int j, e1) => if rOk j ∧ j.toNat ≤ LIM then forI tg (execB b) (rngI 0 j) e1 else .no
    | _ => .no
  | .forS fz tg m b, e => match evalF cl m (frz fz e) with
    | .ok (d, e1) => match d.items with
      | some ds => forI tg (execB b) ds e1
      | none => .no
    | _ => .no
  | .rgn b d, e => match execB b (noLE e) with
    | .nx e1 => if okK (callK cl.kf) true d (viewK e1) then .nx (wipeE (tgK d) (noLE e1)) else .no
    | r => r
  | .lnd i a C m j q d, e => if shE e && (slot e i).isSome then match evalE cl a (noLE e) with
      | .ok (.sh x) => (match runQ cl i (some x) q (e.set i none) with
        | .nx e1 => if okK (callK cl.kf) true d (fun k => if k = i then some x else none) then .nx (wipeE (tgK d) e1) else .no
        | r => r)
      | .ex D none => (match cl.sub D C with
        | some true => (match runQ cl i none q ((e.set m none).set j (some (.sh (.exc D none)))) with
          | .nx _ => .no
          | r => r)
        | some false => .ex D none e
        | none => .no)
      | _ => .no
    else .no
def execB : Blk → Env → Rt
  | .nil, e => .nx e
  | .cons s b, e => (execS s e).then fun e1 => execB b e1
end
end

/-! ### defs -/
structure Fd where
  np : Nat
  ns : Nat
  body : Blk
  kx : Option Kx
/-- the defs by their numbers, the classes' __init__, their methods, the order of the exceptions -/
structure Pg where
  fn : Nat → Option Fd
  init : Nat → Option Nat
  sub : Nat → Nat → Option Bool
def Pg.kf (P : Pg) (f : Nat) : Option Kx := match P.fn f with
  | some d => d.kx
  | none => none
def Pg.kfI (P : Pg) : Nat → Nat → Option Kx
  | 0, _ => none
  | _ + 1, f => P.kf f
def startE (d : Fd) (vs : List Sv) : Env := vs.map some ++ List.replicate (d.ns - vs.length) none
def outV : Rt → Rs Sv
  | .rt (.sh d) _ => .ok (.sh d)
  | .rt (.l1 ds) _ => .ok (.l1 ds)
  | .nx _ => .ok (.sh .non)
  | .ex C t _ => .ex C t
  | _ => .no
def outO (C : Nat) : Rt → Rs Dv
  | .nx e => match slot e 0 with
    | some (.o1 D fs) => if D = C then .ok (.obj C fs) else .no
    | _ => .no
  | .ex C t _ => .ex C t
  | _ => .no
def startM (d : Fd) (k : Nat) (ds xd : List Dv) : Env := startE d ((ds.take k).map Sv.sh ++ .m1 xd :: (ds.drop k).map Sv.sh)
def outM (k : Nat) : Rt → Rs (Dv × List Dv)
  | .rt (.sh d) e => match slot e k with
    | some (.m1 ys) => .ok (d, ys)
    | _ => .no
  | .rt (.l1 ds) e => match slot e k with
    | some (.m1 ys) => .ok (.lst ds, ys)
    | _ => .no
  | .nx e => match slot e k with
    | some (.m1 ys) => .ok (.non, ys)
    | _ => .no
  | _ => .no
mutual
def callI (P : Pg) : Nat → Nat → List Dv → Rs Sv
  | 0, _, _ => .no
  | n + 1, f, ds => match P.fn f with
    | some d => if ds.length = d.np then outV (execB ⟨callI P n, makeI P n, P.sub, callMI P n, P.kfI n⟩ d.body (startE d (ds.map Sv.sh))) else .no
    | none => .no
def makeI (P : Pg) : Nat → Nat → List Dv → Rs Dv
  | 0, _, _ => .no
  | n + 1, C, ds => match P.init C with
    | some f => match P.fn f with
      | some d => if ds.length + 1 = d.np then outO C (execB ⟨callI P n, makeI P n, P.sub, callMI P n, P.kfI n⟩ d.body (startE d (.o1 C [] :: ds.map Sv.sh))) else .no
      | none => .no
    | none => .no
def callMI (P : Pg) : Nat → Nat → Nat → List Dv → List Dv → Rs (Dv × List Dv)
  | 0, _, _, _, _ => .no
  | n + 1, f, k, ds, xd => match P.fn f with
    | some d => if ds.length + 1 = d.np ∧ k ≤ ds.length then outM k (execB ⟨callI P n, makeI P n, P.sub, callMI P n, P.kfI n⟩ d.body (startM d k ds xd)) else .no
    | none => .no
end
abbrev clI (P : Pg) (n : Nat) : Cl := ⟨callI P n, makeI P n, P.sub, callMI P n, P.kfI n⟩
end Dg

/-! From the syntax of the program to the small language. -/
namespace Dg
open PySem L2

/-! ### texts compared by their codes -/
def natsEq : List Nat → List Nat → Bool
  | [], [] => true
  | a :: r, b :: s => Nat.beq a b && natsEq r s
  | _, _ => false
def sEq (a b : Str) : Bool := natsEq a.cps.toList b.cps.toList
theorem natsEq_iff : ∀ a b : List Nat, natsEq a b = true ↔ a = b
  | [], [] => by simp [natsEq]
  | [], _ :: _ => by simp [natsEq]
  | _ :: _, [] => by simp [natsEq]
  | a :: r, b :: s => by simp [natsEq, natsEq_iff r s]
theorem sEq_iff (a b : Str) : sEq a b = true ↔ a = b := by
  unfold sEq
  rw [natsEq_iff]
  constructor
  · intro h
    cases a with
    | mk x => cases b with
      | mk y =>
        have : x = y := by cases x; cases y; simp at h; simp [h]
        rw [this]
  · intro h; rw [h]
theorem sEq_beq (a b : Str) : (a == b) = sEq a b := by
  cases h : sEq a b with
  | true => rw [(sEq_iff a b).mp h]; simp
  | false =>
    have : a ≠ b := fun e => by rw [(sEq_iff a b).mpr e] at h; cases h
    simp [this]
def lkS {α : Type} (x : Str) : List (Str × α) → Option α
  | [] => none
  | (y, a) :: r => match sEq x y with
    | true => some a
    | false => lkS x r
theorem lkS_eq {α : Type} (x : Str) : ∀ l : List (Str × α), lkS x l = l.lookup x
  | [] => rfl
  | (y, a) :: r => by
    unfold lkS
    rw [List.lookup_cons, sEq_beq, lkS_eq x r]
    cases sEq x y <;> rfl
def ixOf (x : Str) : List Str → Option Nat
  | [] => none
  | y :: r => match sEq x y with
    | true => some 0
    | false => match ixOf x r with
      | some i => some (i + 1)
      | none => none
theorem ixOf_get {x : Str} : ∀ {l : List Str} {i : Nat}, ixOf x l = some i → l[i]? = some x
  | [], _, h => by cases h
  | y :: r, i, h => by
    unfold ixOf at h
    cases e : sEq x y with
    | true =>
      rw [e] at h
      cases h
      rw [(sEq_iff x y).mp e]
      rfl
    | false =>
      rw [e] at h
      cases q : ixOf x r with
      | none => rw [q] at h; cases h
      | some j =>
        rw [q] at h
        cases h
        rw [List.getElem?_cons_succ]
        exact ixOf_get q

/-! ### the names that a def sees -/
inductive Gk where
  | fn (f : Nat) | cls (C : Nat) | cst (d : Dv) | exc (C : Nat)
structure SE where
  N : List Str
  sc : Scope
  gl : List (Str × Gk)
  fl : List Str
  mt : List (Str × (Nat × Nat))
  mu : List Nat
  /-- stretches behind which lists are undone: the line of the first statement, how many statements, how many that undo -/
  rg : List (Nat × Nat × Nat)
def relC (scope sc : Scope) : Scope :=
  { scope with names := scope.names.map fun (n, k) => if (k == .free && sc.kind == .function && sc.names.lookup n == some .cell) then (n, .cell) else (n, k) }
def SE.inC (se : SE) (scope : Scope) : SE := { se with sc := relC scope se.sc }
/-- a name of the def: its slot -/
def locOf (se : SE) (x : Str) : Option Nat := match lkS x se.sc.names with
  | some .local => ixOf x se.N
  | some .cell => ixOf x se.N
  | some .free => ixOf x se.N
  | _ => none
/-- a name that may be stored to: its slot -/
def stoOf (se : SE) (x : Str) : Option Nat := match lkS x se.sc.names with
  | some .local => ixOf x se.N
  | some .cell => ixOf x se.N
  | _ => none
/-- a plain local name -/
def plnOf (se : SE) (x : Str) : Option Nat := match lkS x se.sc.names with
  | some .local => ixOf x se.N
  | _ => none
inductive Gv where
  | own (k : Gk) | blt
def gloOf (se : SE) (x : Str) : Option Gv := match lkS x se.sc.names with
  | some .globalImplicit => match lkS x se.gl with
    | some k => some (.own k)
    | none => some .blt
  | _ => none
/-- the built-in functions by their names -/
def bltT : List (Str × Nat × Bi) := [("len", 1, .len), ("abs", 1, .abs), ("min", 2, .min2), ("min", 1, .min1), ("max", 2, .max2), ("max", 1, .max1), ("int", 1, .int), ("list", 1, .list), ("tuple", 1, .tuple), ("sorted", 1, .sorted), ("sum", 1, .sum), ("all", 1, .all), ("any", 1, .any)]
def bltOf (x : Str) (n : Nat) : Option Bi := match bltT.find? fun p => sEq x p.1 && Nat.beq n p.2.1 with
  | some p => some p.2.2
  | none => none
def tyOf (x : Str) : Option Ty :=
  if sEq x "int" then some .int else if sEq x "bool" then some .bool else if sEq x "str" then some .str else if sEq x "tuple" then some .tuple else if sEq x "list" then some .list
  else none
def ownOf (se : SE) (scope : Scope) : List (Str × NameKind) → Option (List (Str × Nat))
  | [] => some []
  | (x, .local) :: r => match ownOf se scope r with
    | some l => match ixOf x se.N with
      | some i => some ((x, i) :: l)
      | none => some l
    | none => none
  | (x, .cell) :: r => match ownOf se scope r with
    | some l => match ixOf x se.N with
      | some i => some ((x, i) :: l)
      | none => some l
    | none => none
  | _ :: r => ownOf se scope r
def namesOf (se : SE) : List Expr → Option (List Nat)
  | [] => some []
  | .Name x _ :: r => match stoOf se x, namesOf se r with
    | some i, some l => some (i :: l)
    | _, _ => none
  | _ :: _ => none
def cTg (se : SE) (keep : Bool) : Expr → Option Tg
  | .Name x _ => match stoOf se x with
    | some i => some (.nm i keep)
    | none => none
  | .Tuple es _ _ => match namesOf se es with
    | some l => some (.tp l)
    | none => none
  | _ => none
/-- the slots of a target are among these -/
def tgIn (own : List Nat) : Tg → Bool
  | .nm i _ => own.contains i
  | .tp is => is.all fun i => own.contains i
/-- an iterable that is not folded -/
def foldOk : Expr → Bool
  | .Set _ _ _ => false
  | _ => true
/-- f(): perhaps super() -/
def bareCall : Expr → Bool
  | .Call (.Name _ _) [] [] _ => true
  | _ => false
/-- the target of an iterator that makes its tuples anew: several names -/
def isTup : Expr → Bool
  | .Tuple _ _ _ => true
  | _ => false

/-- defs that are only lent their lists: they hand back a truth, a number, nothing -/
def lendNames : List Str := ["_law_same"]
def lendIs (x : Str) : Bool := lendNames.any fun y => sEq x y
/-- defs that take from a list that is lent to them, and its place -/
def mutNames : List (Str × Nat) := [("_law_grown", 0), ("_law_laid", 1), ("_law_sizes", 0), ("_law_shape_by", 0), ("_law_like", 0), ("_law_thinning", 0), ("_law_shares_of", 0), ("_law_question_by", 0), ("_law_answer", 2), ("_law_filled", 4), ("_law_odd_set", 0), ("_law_odd_question", 0), ("_law_worths_right", 4)]
def mutOf (x : Str) : Option Nat := lkS x mutNames

mutual
def cE : Nat → SE → Expr → Option Ex
  | 0, _, _ => none
  | n + 1, se, e => match e with
    | .Name x _ => match locOf se x with
      | some i => if sEq x "__debug__" || sEq x "__classdict__" then none else some (.var i)
      | none => match gloOf se x with
        | some (.own (.cst d)) => if sEq x "__debug__" then none else some (.cst d)
        | _ => none
    | .Constant (.int i) _ _ => some (.cst (.int i))
    | .Constant (.bool b) _ _ => some (.cst (.bl b))
    | .Constant .none _ _ => some (.cst .non)
    | .Constant (.str x) _ _ => some (.cst (.str x))
    | .BinOp a op b _ => match cE n se a, cE n se b with
      | some x, some y => some (.bin op x y)
      | _, _ => none
    | .UnaryOp .Not a _ => match cE n se a with
      | some x => some (.not x)
      | none => none
    | .UnaryOp .USub a _ => match cE n se a with
      | some x => some (.neg x)
      | none => none
    | .BoolOp _ [a] _ => cE n se a
    | .BoolOp .And (a :: b :: r) pos => match cE n se a, cE n se (.BoolOp .And (b :: r) pos) with
      | some x, some y => some (.and x y)
      | _, _ => none
    | .BoolOp .Or (a :: b :: r) pos => match cE n se a, cE n se (.BoolOp .Or (b :: r) pos) with
      | some x, some y => some (.or x y)
      | _, _ => none
    | .Compare a [op] [b] _ => match cInR n se op b, cE n se a, cE n se b with
      | some (k, z), some x, _ => some (.inR k x z)
      | none, some x, some y => some (.cmp op x y)
      | _, _, _ => none
    | .Compare a [op, op2] [b, c] _ => match cE n se a, cE n se b, cE n se c with
      | some x, some y, some z => some (.cmp2 op op2 x y z)
      | _, _, _ => none
    | .Tuple es _ _ => match cEs n se es with
      | some xs => if es.length ≤ 1000 then some (.tup xs) else none
      | none => none
    | .List es _ => match cEs n se es with
      | some xs => if es.length ≤ 1000 then some (.lst xs) else none
      | none => none
    | .Dict [] [] _ => some .dct0
    | .Subscript a (.Slice lo hi none _) _ => match cE n se a, cO n se lo, cO n se hi with
      | some x, some l, some h => some (.slc x l h)
      | _, _, _ => none
    | .Subscript a i _ => match cE n se a, cE n se i with
      | some x, some y => some (.idx x y)
      | _, _ => none
    | .Attribute a f _ => if bareCall a then none else match cE n se a, ixOf f se.fl with
      | some x, some j => some (.fld x j)
      | _, _ => none
    | .Call (.Name x _) args [] _ => if sEq x "__debug__" || sEq x "__name__" then none else match gloOf se x with
      | some (.own (.fn f)) => match cEs n se args with
        | some xs => if lendIs x then some (.callB f xs) else match mutOf x with
          | some _ => none
          | none => some (.call f xs)
        | none => none
      | some (.own (.cls C)) => match cEs n se args with
        | some xs => some (.make C xs)
        | none => none
      | some .blt => match cRng n se x args with
        | some m => some m
        | none => match bltOf x args.length, cEs n se args with
          | some id, some xs => some (.bc id xs)
          | _, _ => none
      | _ => none
    | .Call (.Attribute o m ap) args [] pos => if bareCall o || !(Nat.beq ap.endLine pos.line) || !(Nat.blt args.length 30) then none else match lkS m se.mt, cE n se o, cEs n se args with
      | some k, some x, some xs => some (.meth k.1 k.2 x xs)
      | none, some x, some xs => if sEq m "index" && Nat.beq args.length 1 then some (.lix x xs) else none
      | _, _, _ => none
    | .ListComp elt [⟨tg, iter, ifs, 0⟩] scope _ => match ownOf se scope scope.names with
      | some own => if blkC se.N se.sc scope own then match cSrc n se (isTup tg) iter, cTg { se with sc := scope } false tg, cIf n (se.inC scope) ifs, cE n (se.inC scope) elt with
          | some s, some t, some c, some x => if tgIn (own.map (·.2)) t && foldOk iter then some (.comp (own.map (·.2)) t s c x) else none
          | _, _, _, _ => none
        else none
      | none => none
    | _ => none
def cEs : Nat → SE → List Expr → Option Exs
  | _, _, [] => some .nil
  | 0, _, _ :: _ => none
  | n + 1, se, a :: r => match cE n se a, cEs n se r with
    | some x, some xs => some (.cons x xs)
    | _, _ => none
def cO : Nat → SE → Option Expr → Option Ox
  | _, _, none => some .non
  | 0, _, some _ => none
  | n + 1, se, some a => match cE n se a with
    | some x => some (.som x)
    | none => none
def cIf : Nat → SE → List Expr → Option Ox
  | 0, _, _ => none
  | n + 1, se, ifs => match ifs with
    | [] => some .non
    | [c] => match cE n se c with
      | some x => some (.som x)
      | none => none
    | _ => none
/-- list(range(..)), tuple(range(..)), isinstance(a, T) -/
def cRng : Nat → SE → Str → List Expr → Option Ex
  | 0, _, _, _ => none
  | n + 1, se, x, args => match args with
    | [a, .Name y _] => if sEq x "isinstance" then match gloOf se y, cE n se a with
        | some (.own (.exc C)), some z => if sEq y "__debug__" then none else some (.isa z C)
        | some (.own (.cls C)), some z => if sEq y "__debug__" then none else some (.isc z C)
        | some .blt, some z => if sEq y "ValueError" then some (.isv z) else match tyOf y with
          | some T => some (.isty z T)
          | none => none
        | _, _ => none
      else none
    | [.Call (.Name y _) [a] [] _] => if sEq y "range" then match gloOf se y, cE n se a with
        | some .blt, some z => if sEq x "list" then some (.rngL (.cst (.int 0)) z) else if sEq x "tuple" then some (.rngT (.cst (.int 0)) z) else none
        | _, _ => none
      else if sEq y "reversed" then match gloOf se y, cE n se a with
        | some .blt, some z => if sEq x "tuple" then some (.revT z) else if sEq x "list" then some (.revL z) else none
        | some .blt, none => match a with
          | .Call (.Name z _) [b] [] _ => if sEq z "range" then match gloOf se z, cE n se b with
            | some .blt, some m => if sEq x "tuple" then some (.revR m) else none
            | _, _ => none
            else none
          | _ => none
        | _, _ => none
      else if sEq y "set" then match gloOf se y, cE n se a with
        | some .blt, some z => if sEq x "len" then some (.lset z) else if sEq x "sorted" then some (.sset z) else none
        | _, _ => none
      else none
    | _ => none
/-- in range(..), not in range(..) -/
def cInR : Nat → SE → CmpOp → Expr → Option (Bool × Ex)
  | 0, _, _, _ => none
  | n + 1, se, op, e => match op, e with
    | .In, .Call (.Name x _) [a] [] _ => if sEq x "range" then match gloOf se x, cE n se a with
        | some .blt, some y => some (false, y)
        | _, _ => none
      else none
    | .NotIn, .Call (.Name x _) [a] [] _ => if sEq x "range" then match gloOf se x, cE n se a with
        | some .blt, some y => some (true, y)
        | _, _ => none
      else none
    | _, _ => none
def cSrc : Nat → SE → Bool → Expr → Option Src
  | 0, _, _, _ => none
  | n + 1, se, tup, e => match cSrcC n se tup e with
    | some s => some s
    | none => match cE n se e with
      | some x => some (.seq x)
      | none => none
def cSrcC : Nat → SE → Bool → Expr → Option Src
  | 0, _, _, _ => none
  | n + 1, se, tup, e => match e with
    | .Call (.Name x _) [a] [] _ => if sEq x "range" then match gloOf se x, cE n se a with
        | some .blt, some y => some (.rng1 y)
        | _, _ => none
      else if sEq x "reversed" then match gloOf se x, cE n se a with
        | some .blt, some y => some (.rev y)
        | _, _ => none
      else if sEq x "enumerate" && tup then match gloOf se x, cE n se a with
        | some .blt, some y => some (.enum y)
        | _, _ => none
      else none
    | .Call (.Name x _) [a, b] [] _ => if sEq x "range" then match gloOf se x, cE n se a, cE n se b with
        | some .blt, some y, some z => some (.rng2 y z)
        | _, _, _ => none
      else if sEq x "zip" && tup then match gloOf se x, cE n se a, cE n se b with
        | some .blt, some y, some z => some (.zip y z)
        | _, _, _ => none
      else none
    | .Call (.Name x _) [a, b, c] [] _ => if sEq x "range" then match gloOf se x, cE n se a, cE n se b, cE n se c with
        | some .blt, some y, some z, some (.cst (.int s)) => some (.rngC y z s)
        | some .blt, some y, some z, some w => some (.rng3 y z w)
        | _, _, _, _ => none
      else none
    | _ => none
end

/-! ### which names are handed on -/
def vOf : Ex → List Nat
  | .var i => [i]
  | _ => []
mutual
def escE : Ex → List Nat
  | .var _ => []
  | .cst _ => []
  | .bin _ a b => escE a ++ escE b
  | .neg a => escE a
  | .cmp _ a b => escE a ++ escE b
  | .cmp2 _ _ a b c => escE a ++ escE b ++ escE c
  | .and a b => escE a ++ escE b
  | .or a b => escE a ++ escE b
  | .not a => escE a
  | .tup es => escSs es
  | .lst es => escSs es
  | .idx a i => escE a ++ escE i
  | .slc a lo hi => escE a ++ escO lo ++ escO hi
  | .fld a _ => escE a
  | .call _ es => escSs es
  | .callB _ es => escEs es
  | .make _ es => escSs es
  | .meth _ _ a es => vOf a ++ escE a ++ escSs es
  | .bc _ es => escEs es
  | .rngL a b => escE a ++ escE b
  | .rngT a b => escE a ++ escE b
  | .revT a => escE a
  | .revL a => escE a
  | .revR a => escE a
  | .lix a es => escE a ++ escEs es
  | .inR _ a n => escE a ++ escE n
  | .lset a => escE a
  | .sset a => escE a
  | .dct0 => []
  | .comp _ _ src c elt => escR src ++ escO c ++ vOf elt ++ escE elt
  | .isa a _ => escE a
  | .isv a => escE a
  | .isc a _ => escE a
  | .isty a _ => escE a
def escSs : Exs → List Nat
  | .nil => []
  | .cons a r => vOf a ++ escE a ++ escSs r
def escEs : Exs → List Nat
  | .nil => []
  | .cons a r => escE a ++ escEs r
def escO : Ox → List Nat
  | .non => []
  | .som a => escE a
def escR : Src → List Nat
  | .seq a => escE a
  | .rng1 a => escE a
  | .rng2 a b => escE a ++ escE b
  | .rngC a b _ => escE a ++ escE b
  | .rng3 a b c => escE a ++ (escE b ++ escE c)
  | .enum a => escE a
  | .zip a b => escE a ++ escE b
  | .rev a => escE a
end
def escS (e : Ex) : List Nat := vOf e ++ escE e
def escL : Src → List Nat
  | .seq a => escS a
  | .rng1 a => escE a
  | .rng2 a b => escE a ++ escE b
  | .rngC a b _ => escE a ++ escE b
  | .rng3 a b c => escE a ++ (escE b ++ escE c)
  | .enum a => escS a
  | .zip a b => escS a ++ escS b
  | .rev a => escS a
def dedup : List Nat → List Nat
  | [] => []
  | i :: r => if r.contains i then dedup r else i :: dedup r
/-- lists of lists: their slots stand in mu once more, from 1000 on -/
def fz2 (se : SE) : List Nat := (se.mu.filter fun i => Nat.ble 1000 i).map fun i => i - 1000
def fzOf (se : SE) (l : List Nat) : List Nat := dedup (l.filter fun i => se.mu.contains i)
def keepOf (se : SE) : Tg → Bool
  | .nm i _ => se.mu.contains i
  | .tp _ => false
def mopOf (m : Str) (n : Nat) : Option Mop :=
  if sEq m "append" then (if n == 1 then some .append else none)
  else if sEq m "insert" then (if n == 2 then some .insert else none)
  else if sEq m "clear" then (if n == 0 then some .clear else none)
  else if sEq m "reverse" then (if n == 0 then some .reverse else none)
  else none
def isLc : Expr → Bool
  | .ListComp _ _ _ _ => true
  | _ => false
/-- x = [..]: x a local name of its own, on one line -/
def lcOk (se : SE) (x : Str) (px : Pos) : Expr → Bool
  | .ListComp _ _ scope pos => (match lkS x se.sc.names with
      | some .local => true
      | _ => false) && Nat.beq px.line pos.line && !(scope.names.any fun (n, k) => sEq n x && (k == .local || k == .cell))
  | _ => true
/-- a slice -/
def isSl : Expr → Bool
  | .Slice _ _ _ _ => true
  | _ => false
/-- x = [[] for .. in range(..)] -/
def cNew2 (se : SE) (i : Nat) (v : Expr) (e : Ex) : Option Stm := match v, e with
  | .ListComp (.List [] _) _ _ _, .comp own (.nm k f) (.rng1 a) .non (.lst .nil) => some (.new2 [] i own (.nm k f) a)
  | _, _ => none
/-- x = y.pop(), x = y.pop(k) -/
def cPop (n : Nat) (se : SE) (i : Nat) (v : Expr) : Option Stm := match v with
  | .Call (.Attribute (.Name y _) m pm) args [] pc => if !(Nat.beq pm.endLine pc.line) || !(sEq m "pop") || sEq y "__debug__" || sEq y "__classdict__" then none else match locOf se y, args with
    | some j, [] => if !se.mu.contains j then none else some (.popA [] (.nm i false) j .non)
    | some j, [a] => match cE n se a with
      | some x => if !se.mu.contains j then none else some (.popA [] (.nm i false) j (.som x))
      | none => none
    | _, _ => none
  | _ => none
/-- return x, x a list of its own -/
def nmIx (se : SE) : Expr → Option Nat
  | .Name x _ => match locOf se x with
    | some i => if se.mu.contains i && !sEq x "__debug__" && !sEq x "__classdict__" then some i else none
    | none => none
  | _ => none
/-- both names of a, b = c, d: stored from the right, no tuple made -/
def parOk (se : SE) : List Expr → List Expr → Bool
  | [.Name x p, .Name y q], [a, b] => (match lkS x se.sc.names with
      | some .local => true
      | _ => false) && (match lkS y se.sc.names with
      | some .local => true
      | _ => false) && !sEq x y && Nat.beq p.line q.line && !([a, b].all (foldedForSure 8)) && !([a, b].all (constantsAlone 8))
  | _, _ => false

/-! ### expressions that take from a list of the frame -/
mutual
def cF : Nat → SE → Expr → Option Fx
  | 0, _, _ => none
  | n + 1, se, e => match cE n se e with
    | some x => some (.pu x)
    | none => match e with
      | .Call (.Attribute (.Name y _) m pm) [] [] pc => if !(Nat.beq pm.endLine pc.line) || !(sEq m "pop") || sEq y "__debug__" || sEq y "__classdict__" then none else match locOf se y with
        | some j => some (.pop j)
        | none => none
      | .BinOp a op b _ => match cF n se a, cF n se b with
        | some x, some y => some (.bin op x y)
        | _, _ => none
      | .Compare a [op] [b] _ => match cInR n se op b, cF n se a, cF n se b with
        | none, some x, some y => some (.cmp op x y)
        | _, _, _ => none
      | .Tuple es _ _ => match cFs n se es with
        | some xs => if es.length ≤ 1000 then some (.tup xs) else none
        | none => none
      | .List es _ => match cFs n se es with
        | some xs => if es.length ≤ 1000 then some (.lst xs) else none
        | none => none
      | .Subscript a (.Slice none (some h) none _) _ => match cF n se a, cF n se h with
        | some x, some y => some (.slh x y)
        | _, _ => none
      | .Subscript a i _ => match isSl i, cF n se a, cF n se i with
        | false, some x, some y => some (.idx x y)
        | _, _, _ => none
      | .Call (.Name x _) args [] _ => if sEq x "__debug__" || sEq x "__name__" then none else match gloOf se x with
        | some (.own (.fn f)) => match mutOf x with
          | some k => match cMs n se k args with
            | some (i, xs) => some (.callM f k i xs)
            | none => none
          | none => if lendIs x then none else match cFs n se args with
            | some xs => some (.call f xs)
            | none => none
        | _ => none
      | _ => none
def cFs : Nat → SE → List Expr → Option Fxs
  | _, _, [] => some .nil
  | 0, _, _ :: _ => none
  | n + 1, se, a :: r => match cF n se a, cFs n se r with
    | some x, some xs => some (.cons x xs)
    | _, _ => none
def cMs : Nat → SE → Nat → List Expr → Option (Nat × Fxs)
  | n + 1, se, 0, .Name y _ :: r => if sEq y "__debug__" || sEq y "__classdict__" then none else match locOf se y, cFs n se r with
    | some i, some xs => some (i, xs)
    | _, _ => none
  | n + 1, se, k + 1, a :: r => match cF n se a, cMs n se k r with
    | some x, some (i, xs) => some (i, .cons x xs)
    | _, _ => none
  | _, _, _, _ => none
end
mutual
def escF : Fx → List Nat
  | .pu e => escS e
  | .pop _ => []
  | .bin _ a b => escF a ++ escF b
  | .cmp _ a b => escF a ++ escF b
  | .tup es => escFs es
  | .lst es => escFs es
  | .idx a b => escF a ++ escF b
  | .slh a b => escF a ++ escF b
  | .callM _ _ _ es => escFs es
  | .call _ es => escFs es
def escFs : Fxs → List Nat
  | .nil => []
  | .cons a r => escF a ++ escFs r
end
/-! ### what undoes lists -/
def pthOf (se : SE) : Expr → Option (Nat × List Nat)
  | .Name x _ => match locOf se x with
    | some i => if sEq x "__debug__" || sEq x "__classdict__" then none else some (i, [])
    | none => none
  | .Subscript a (.Constant (.int k) _ _) _ => match pthOf se a with
    | some (i, p) => if 0 ≤ k then some (i, p ++ [k.toNat]) else none
    | none => none
  | _ => none
mutual
def cK1 : Nat → SE → Stmt → Option Kx
  | 0, _, _ => none
  | n + 1, se, s => match s with
    | .Expr (.Call (.Attribute o m pm) [] [] pc) _ => if !(Nat.beq pm.endLine pc.line) then none else match pthOf se o with
      | some (i, p) => if sEq m "clear" then some (.clr i p) else if sEq m "reverse" then (match p with
        | [] => some (.rev i)
        | _ :: _ => none) else none
      | none => none
    | .Expr (.Call (.Name f _) [.Name x _] [] _) _ => if sEq f "__debug__" || sEq x "__debug__" || sEq x "__classdict__" then none else match gloOf se f, locOf se x with
      | some (.own (.fn g)), some i => some (.call g i)
      | _, _ => none
    | .For (.Name y _) iter b [] _ => match stoOf se y, pthOf se iter, cK n se b with
      | some j, some (i, p), some x => some (.for j i p x)
      | _, _, _ => none
    | .If (.Call (.Name isn _) [.Name x _, .Name ty _] [] _) b [] _ => if sEq isn "isinstance" && sEq ty "list" && !sEq x "__debug__" && !sEq x "__classdict__" then match gloOf se isn, gloOf se ty, locOf se x, cK n se b with
      | some .blt, some .blt, some i, some d => some (.ifl i d)
      | _, _, _, _ => none
      else none
    | .If c a b _ => match pthOf se c, cK n se a, cK n se b with
      | some (i, p), some x, some y => some (.ifb i p x y)
      | _, _, _ => none
    | _ => none
def cK : Nat → SE → List Stmt → Option Kx
  | _, _, [] => some .nop
  | 0, _, _ :: _ => none
  | n + 1, se, a :: r => match cK1 n se a, cK n se r with
    | some x, some y => some (.seq x y)
    | _, _ => none
end
def rgAt : Nat → List (Nat × Nat × Nat) → Option (Nat × Nat)
  | _, [] => none
  | l, (a, b, c) :: r => if Nat.beq l a then some (b, c) else rgAt l r
/-- statements while a told value's lists are nobody else's -/
def cQ (n : Nat) (se : SE) (i : Nat) : List Stmt → Option Qs
  | [] => some .nil
  | .Assign [.Name x _] v _ :: r => match stoOf se x, cE n se v, cQ n se i r with
    | some j, some m, some q => if isLc v || Nat.beq i j then none else some (.asg j m q)
    | _, _, _ => none
  | .If c [.Return (some v) _] [] _ :: r => match cE n se c, cE n se v, cQ n se i r with
    | some x, some m, some q => some (.ret x m q)
    | _, _, _ => none
  | _ => none
structure Lnd where
  i : Nat
  a : Ex
  C : Nat
  m : Nat
  j : Nat
  q : Qs
def cLnd (n : Nat) (se : SE) : List Stmt → Option Lnd
  | .Try [.Assign [.Name t _] v _] [.ExceptHandler (some (.Name x _)) (some m) [.Assign [.Name y _] (.Name m2 _) _] _] [] [] _ :: r => match stoOf se t, cE n se v, gloOf se x, plnOf se m, plnOf se y with
    | some i, some a, some (.own (.exc C)), some k, some j => match cQ n se i r with
      | some q => if sEq m m2 && !sEq x "__debug__" && !sEq m "__debug__" && !sEq m "__classdict__" && !sEq m y && !isLc v && !Nat.beq i j && !Nat.beq i k then some ⟨i, a, C, k, j, q⟩ else none
      | none => none
    | _, _, _, _, _ => none
  | _ => none
/-- what a statement does that takes from a list of the frame -/
def asgFx (n : Nat) (se : SE) (t : Option Tg) (v : Expr) : Option Stm := if isLc v then none else match t, cF n se v with
  | some t, some m => some (.asgF (fzOf se (escF m)) t m)
  | _, _ => none

mutual
def cS : Nat → SE → Stmt → Option Stm
  | 0, _, _ => none
  | n + 1, se, s => match s with
    | .Assign [.Name x px] v _ => match stoOf se x, cE n se v with
      | some i, some e => if lcOk se x px v then (if se.mu.contains (1000 + i) then cNew2 se i v e else some (.asg (fzOf se (escS e)) (.nm i (se.mu.contains i)) e)) else none
      | some i, none => match cPop n se i v with
        | some s => some s
        | none => asgFx n se (some (.nm i false)) v
      | _, _ => none
    | .Assign [.Tuple ts _ _] (.Tuple vs _ _) _ => if parOk se ts vs then match ts, vs with
        | [.Name x _, .Name y _], [a, b] => match plnOf se x, plnOf se y, cE n se a, cE n se b with
          | some i, some j, some u, some v => some (.par (fzOf se (escS u ++ escS v)) i j u v)
          | _, _, _, _ => none
        | _, _ => none
      else none
    | .Assign [.Tuple ts k p] v _ => match cTg se false (.Tuple ts k p), cE n se v with
      | some t, some e => some (.asg (fzOf se (escS e)) t e)
      | some t, none => asgFx n se (some t) v
      | _, _ => none
    | .Assign [.Attribute (.Name x _) f _] v _ => match locOf se x, ixOf f se.fl, cE n se v with
      | some 0, some j, some e => if sEq x "__debug__" || sEq x "__classdict__" then none else some (.setf (fzOf se (escS e)) j e)
      | _, _, _ => none
    | .Assign [.Subscript (.Name x _) k _] v _ => if isSl k then none else match locOf se x, cE n se k, cE n se v with
      | some i, some y, some e => if sEq x "__debug__" || sEq x "__classdict__" then none else some (.seti (fzOf se (escS e)) i y e)
      | _, _, _ => none
    | .AugAssign (.Name x _) .Add v _ => match stoOf se x, cE n se v with
      | some i, some e => some (.aug (fzOf se (escE e)) i e)
      | _, _ => none
    | .Expr (.Call (.Attribute (.Name x px) m pm) args [] pc) _ => match lkS m se.mt with
      | some _ => match cE n se (.Call (.Attribute (.Name x px) m pm) args [] pc) with
        | some e => some (.expr (fzOf se (escS e)) e)
        | none => none
      | none => if !(Nat.beq pm.endLine pc.line) || !(Nat.blt args.length 30) then none else match locOf se x, mopOf m args.length, cEs n se args with
        | some i, some op, some es => if sEq x "__debug__" || sEq x "__classdict__" then none else some (.mut (fzOf se (escSs es)) op i es)
        | some i, none, some (.cons e .nil) => if sEq x "__debug__" || sEq x "__classdict__" || !(sEq m "extend") then none else some (.ext (fzOf se (escE e)) i e)
        | _, _, _ => none
    | .Expr (.Call (.Attribute (.Subscript (.Name x px) k sp) m pm) args [] pc) _ => match lkS m se.mt with
      | some _ => match cE n se (.Call (.Attribute (.Subscript (.Name x px) k sp) m pm) args [] pc) with
        | some e => some (.expr (fzOf se (escS e)) e)
        | none => none
      | none => if !(Nat.beq pm.endLine pc.line) || isSl k || !(sEq m "append") || sEq x "__debug__" || sEq x "__classdict__" then none else match locOf se x, cE n se k, cEs n se args with
        | some i, some y, some (.cons e .nil) => some (.app2 (fzOf se (escS e)) i y e)
        | _, _, _ => none
    | .Expr v _ => if isLc v then none else match cE n se v with
      | some e => some (.expr (fzOf se (escS e)) e)
      | none => none
    | .Return none _ => some .retN
    | .Return (some v) _ => match nmIx se v with
      | some i => some (.retv i)
      | none => match cE n se v with
        | some e => some (.ret (fzOf se (escS e) ++ fz2 se) e)
        | none => match cF n se v with
          | some m => some (.retF (fzOf se (escF m)) m)
          | none => none
    | .If c a b _ => match cE n se c, cB n se a, cB n se b with
      | some x, some u, some v => some (.ite (fzOf se (escE x)) x u v)
      | none, some u, some v => match c with
        | .Compare a [op] [b] p => match cInR n se op b, cF n se a, cF n se b with
          | none, some x, some y => some (.iteF (fzOf se (escF x ++ escF y)) (.cmp op x y) u v)
          | _, _, _ => none
        | _ => none
      | _, _, _ => none
    | .While c b [] _ => match cE n se c, cB n se b with
      | some x, some u => some (.whl (fzOf se (escE x)) x u)
      | _, _ => none
    | .For tg iter b [] _ => match cTg se false tg, cSrc n se (isTup tg) iter, cB n se b with
      | some t, some r, some u => some (.for (fzOf se (escL r)) t r u)
      | some t, none, some u => match iter with
        | .Call (.Name x _) [a] [] _ => if sEq x "range" then match gloOf se x, cF n se a with
          | some .blt, some m => some (.forF (fzOf se (escF m)) t m u)
          | _, _ => none
          else none
        | .Subscript a h p => match cF n se (.Subscript a h p) with
          | some m => some (.forS (fzOf se (escF m)) t m u)
          | none => none
        | _ => none
      | _, _, _ => none
    | .Pass _ => some .pass
    | .Break _ => some .brk
    | .Continue _ => some .cnt
    | .Raise (some (.Call (.Name x _) [.Constant (.str _) _ _] [] _)) none _ => if sEq x "__debug__" then none else match gloOf se x with
      | some (.own (.exc C)) => some (.rai C)
      | _ => none
    | .Try b [.ExceptHandler (some (.Name x _)) (some m) [.Assign [.Name y _] (.Name m2 _) _] _] [] [] _ => match cB n se b, gloOf se x, plnOf se m, plnOf se y with
      | some u, some (.own (.exc C)), some i, some j => if sEq m m2 && !sEq x "__debug__" && !sEq m "__debug__" && !sEq m "__classdict__" && !sEq m y then some (.try_ u C i j) else none
      | _, _, _, _ => none
    | _ => none
def cB : Nat → SE → List Stmt → Option Blk
  | _, _, [] => some .nil
  | 0, _, _ :: _ => none
  | n + 1, se, a :: r => match rgAt a.pos.line se.rg with
    | some (nb, nk) => if Nat.ble 1000 nk then match cLnd n { se with rg := [] } ((a :: r).take nb), cK n se (((a :: r).drop nb).take (nk - 1000)), cB n se ((a :: r).drop (nb + (nk - 1000))) with
      | some l, some d, some xs => some (.cons (.lnd l.i l.a l.C l.m l.j l.q d) xs)
      | _, _, _ => none
    else match cB n { se with rg := [] } ((a :: r).take nb), cK n se (((a :: r).drop nb).take nk), cB n se ((a :: r).drop (nb + nk)) with
      | some x, some d, some xs => some (.cons (.rgn x d) xs)
      | _, _, _ => none
    | none => match cS n se a, cB n se r with
      | some x, some xs => some (.cons x xs)
      | none, some xs => some (.cons .nos xs)
      | _, none => none
end

def strsEq : List Str → List Str → Bool
  | [], [] => true
  | a :: r, b :: s => sEq a b && strsEq r s
  | _, _ => false
theorem strsEq_ok : ∀ {a b : List Str}, strsEq a b = true → a = b
  | [], [], _ => rfl
  | [], _ :: _, h => by cases h
  | _ :: _, [], h => by cases h
  | a :: r, b :: s, h => by
    obtain ⟨h1, h2⟩ := Bool.and_eq_true_iff.mp (show (sEq a b && strsEq r s) = true from h)
    rw [(sEq_iff a b).mp h1, strsEq_ok h2]
/-- no name twice -/
def ndS : List Str → Bool
  | [] => true
  | x :: r => (match ixOf x r with
    | none => true
    | some _ => false) && ndS r
theorem ixOf_none {x : Str} : ∀ {l : List Str}, ixOf x l = none → x ∉ l
  | [], _, h => by cases h
  | y :: r, e, h => by
    unfold ixOf at e
    cases q : sEq x y with
    | true => rw [q] at e; cases e
    | false =>
      rw [q] at e
      cases q2 : ixOf x r with
      | some i => rw [q2] at e; cases e
      | none =>
        rcases List.mem_cons.mp h with h | h
        · rw [(sEq_iff x y).mpr h] at q; cases q
        · exact ixOf_none q2 h
theorem ndS_ok : ∀ {l : List Str}, ndS l = true → l.Nodup
  | [], _ => List.nodup_nil
  | x :: r, h => by
    obtain ⟨h1, h2⟩ := Bool.and_eq_true_iff.mp (show ((match ixOf x r with
    | none => true
    | some _ => false) && ndS r) = true from h)
    refine List.nodup_cons.mpr ⟨?_, ndS_ok h2⟩
    cases q : ixOf x r with
    | none => exact ixOf_none q
    | some i => rw [q] at h1; cases h1
/-- a def's scope and names are as they should be -/
def fnC (N P : List Str) (sc : Scope) : Bool :=
  (match sc.kind with
    | .function => true
    | _ => false) && (!sc.isCoroutine && (!sc.isGenerator && (ndS N && (strsEq (N.take P.length) P && (P.all (fun x => match lkS x sc.names with
    | some .local => true
    | some .cell => true
    | _ => false) && sc.names.all fun y => match y.2 with
    | .free => false
    | _ => true)))))
end Dg

/-! How data lies in the heap. -/
namespace Dg
open PySem PySem.Spec L2

/-- what the whole program is: its written part, where its classes stand, its fields' names -/
structure Gx where
  K : PySem.W.Frag
  cA : Nat → Addr
  fl : List Str
  cs : List Nat
/-- an exception of a class, caught and kept -/
def ExT (cls : Value) (d : Option Addr) (a : Addr) : HO := .ext fun h => ∃ (oe : Obj) (vs : Array Value), h.get? a = some oe ∧ Zc cls d oe ∧ oe.data = .fields vs
variable (G : Gx)
mutual
inductive RepS (S : Hp) : V → Dv → Prop
  | non : RepS S .non .non
  | bl (b : Bool) : RepS S (.bl b) (.bl b)
  | int (i : Int) : RepS S (.int i) (.int i)
  | str (x : Str) : RepS S (.str x) (.str x)
  | tup {a : Addr} {xs : List V} {ds : List Dv} : SqT G.K S a xs → xs.length ≤ LIM → RepL S xs ds → RepS S (.ref a) (.tup ds)
  | lst {a : Addr} {xs : List V} {ds : List Dv} : SqL G.K S a xs → xs.length ≤ LIM → RepL S xs ds → RepS S (.ref a) (.lst ds)
  | obj {a dx : Addr} {C : Nat} {xs : List (Str × V)} {fs : List (Nat × Dv)} : S a = some (.ins (G.cA C) dx xs) → C ∈ G.cs → RepF S xs fs → RepS S (.ref a) (.obj C fs)
  | exc {a : Addr} {C : Nat} : S a = some (ExT (.ref (G.cA C)) none a) → RepS S (.ref a) (.exc C none)
  | dct {a : Addr} {kv : List (Key × V)} {kvs : List (Dv × Dv)} : S a = some (.dK kv) → RepK S kv kvs → RepS S (.ref a) (.dct kvs)
inductive RepK (S : Hp) : List (Key × V) → List (Dv × Dv) → Prop
  | nil : RepK S [] []
  | cons {i : Int} {v : V} {d : Dv} {kv : List (Key × V)} {kvs : List (Dv × Dv)} : RepS S v d → RepK S kv kvs → RepK S ((.inl i, v) :: kv) ((.int i, d) :: kvs)
inductive RepL (S : Hp) : List V → List Dv → Prop
  | nil : RepL S [] []
  | cons {v : V} {vs : List V} {d : Dv} {ds : List Dv} : RepS S v d → RepL S vs ds → RepL S (v :: vs) (d :: ds)
inductive RepF (S : Hp) : List (Str × V) → List (Nat × Dv) → Prop
  | nil : RepF S [] []
  | cons {x : Str} {v : V} {xs : List (Str × V)} {f : Nat} {d : Dv} {fs : List (Nat × Dv)} : G.fl[f]? = some x → RepS S v d → RepF S xs fs → RepF S ((x, v) :: xs) ((f, d) :: fs)
end
/-- all that stands in the one stands in the other -/
def Sub (S H : Hp) : Prop := ∀ a o, S a = some o → H a = some o
theorem Sub.refl (S : Hp) : Sub S S := fun _ _ h => h
theorem Sub.trans {S T H : Hp} (a : Sub S T) (b : Sub T H) : Sub S H := fun x o h => b x o (a x o h)
theorem Sub.new {H : Hp} {p : Addr} {o : HO} (h : H p = none) : Sub H (upd H p o) := fun a u e => by
  rw [upd_ne (ne_of_none e h)]
  exact e
theorem Sub.none {S H : Hp} (h : Sub S H) {a : Addr} (e : H a = none) : S a = none := by
  cases q : S a with
  | none => rfl
  | some o => rw [h a o q] at e; cases e
theorem Sub.rd {S H : Hp} (h : Sub S H) {a : Addr} {u : HO} (r : Rd S a u) : Rd H a u := by
  rcases r with r | ⟨o, r⟩
  · exact .inl (h _ _ r)
  · exact .inr ⟨o, h _ _ r⟩
theorem Sub.sqT {K : PySem.W.Frag} {S H : Hp} (h : Sub S H) {a : Addr} {xs : List V} (r : SqT K S a xs) : SqT K H a xs := by
  rcases r with r | r
  · exact .inl (h.rd r)
  · exact .inr r
theorem Sub.sqL {K : PySem.W.Frag} {S H : Hp} (h : Sub S H) {a : Addr} {xs : List V} (r : SqL K S a xs) : SqL K H a xs := by
  rcases r with r | r
  · exact .inl (h.rd r)
  · exact .inr r
variable {G}
mutual
theorem RepS.mono {S H : Hp} (h : Sub S H) : ∀ {d : Dv} {v : V}, RepS G S v d → RepS G H v d
  | .non, _, r => by cases r; exact .non
  | .bl _, _, r => by cases r; exact .bl _
  | .int _, _, r => by cases r; exact .int _
  | .str _, _, r => by cases r; exact .str _
  | .tup ds, _, r => by cases r with | tup a b c => exact .tup (h.sqT a) b (RepL.mono h c)
  | .lst ds, _, r => by cases r with | lst a b c => exact .lst (h.sqL a) b (RepL.mono h c)
  | .obj C fs, _, r => by cases r with | obj a c b => exact .obj (h _ _ a) c (RepF.mono h b)
  | .exc C t, _, r => by cases r with | exc a => exact .exc (h _ _ a)
  | .dct kvs, _, r => by cases r with | dct a b => exact .dct (h _ _ a) (RepK.mono h b)
theorem RepK.mono {S H : Hp} (h : Sub S H) : ∀ {kvs : List (Dv × Dv)} {kv : List (Key × V)}, RepK G S kv kvs → RepK G H kv kvs
  | [], _, r => by cases r; exact .nil
  | (k, d) :: kvs, _, r => by cases r with | cons a b => exact .cons (RepS.mono h a) (RepK.mono h b)
theorem RepL.mono {S H : Hp} (h : Sub S H) : ∀ {ds : List Dv} {vs : List V}, RepL G S vs ds → RepL G H vs ds
  | [], _, r => by cases r; exact .nil
  | d :: ds, _, r => by cases r with | cons a b => exact .cons (RepS.mono h a) (RepL.mono h b)
theorem RepF.mono {S H : Hp} (h : Sub S H) : ∀ {ds : List (Nat × Dv)} {vs : List (Str × V)}, RepF G S vs ds → RepF G H vs ds
  | [], _, r => by cases r; exact .nil
  | (f, d) :: ds, _, r => by cases r with | cons e a b => exact .cons e (RepS.mono h a) (RepF.mono h b)
end
theorem RepL.len {S : Hp} : ∀ {ds : List Dv} {vs : List V}, RepL G S vs ds → vs.length = ds.length
  | [], _, r => by cases r; rfl
  | d :: ds, _, r => by
    cases r with
    | cons a b => rw [List.length_cons, List.length_cons, RepL.len b]
theorem RepL.get {S : Hp} : ∀ {ds : List Dv} {vs : List V} {i : Nat} {d : Dv}, RepL G S vs ds → ds[i]? = some d → ∃ v, vs[i]? = some v ∧ RepS G S v d
  | _ :: _, _, 0, d, .cons a b, h => by
    rw [List.getElem?_cons_zero] at h
    cases h
    exact ⟨_, by rw [List.getElem?_cons_zero], a⟩
  | _ :: _, _, i + 1, d, .cons a b, h => by
    rw [List.getElem?_cons_succ] at h
    obtain ⟨v, e, r⟩ := RepL.get b h
    exact ⟨v, by rw [List.getElem?_cons_succ]; exact e, r⟩
theorem RepL.get2 {S : Hp} {ds : List Dv} {vs : List V} {i : Nat} {v : V} (r : RepL G S vs ds) (h : vs[i]? = some v) : ∃ d, ds[i]? = some d ∧ RepS G S v d := by
  have hl := r.len
  have hi : i < ds.length := by rw [← hl]; exact (List.getElem?_eq_some_iff.mp h).1
  obtain ⟨w, e, q⟩ := r.get (List.getElem?_eq_getElem hi)
  rw [h] at e
  cases e
  exact ⟨_, List.getElem?_eq_getElem hi, q⟩
theorem RepL.append {S : Hp} : ∀ {ds es : List Dv} {vs ws : List V}, RepL G S vs ds → RepL G S ws es → RepL G S (vs ++ ws) (ds ++ es)
  | [], _, _, _, r, q => by cases r; exact q
  | d :: ds, _, _, _, r, q => by cases r with | cons a b => exact .cons a (RepL.append b q)
theorem RepL.drop {S : Hp} : ∀ (n : Nat) {ds : List Dv} {vs : List V}, RepL G S vs ds → RepL G S (vs.drop n) (ds.drop n)
  | 0, _, _, r => r
  | _ + 1, [], _, r => by cases r; exact .nil
  | n + 1, d :: ds, _, r => by cases r with | cons a b => exact RepL.drop n b
theorem RepL.take {S : Hp} : ∀ (n : Nat) {ds : List Dv} {vs : List V}, RepL G S vs ds → RepL G S (vs.take n) (ds.take n)
  | 0, _, _, r => .nil
  | _ + 1, [], _, r => by cases r; exact .nil
  | n + 1, d :: ds, _, r => by cases r with | cons a b => exact .cons a (RepL.take n b)
theorem RepL.reverse {S : Hp} : ∀ {ds : List Dv} {vs : List V}, RepL G S vs ds → RepL G S vs.reverse ds.reverse
  | [], _, r => by cases r; exact .nil
  | d :: ds, _, r => by
    cases r with
    | cons a b =>
      rw [List.reverse_cons, List.reverse_cons]
      exact (RepL.reverse b).append (.cons a .nil)
theorem RepL.set {S : Hp} {v : V} {d : Dv} (q : RepS G S v d) : ∀ {ds : List Dv} {vs : List V} (i : Nat), RepL G S vs ds → RepL G S (vs.set i v) (ds.set i d)
  | [], _, _, r => by cases r; exact .nil
  | _ :: ds, _, 0, r => by cases r with | cons a b => exact .cons q b
  | _ :: ds, _, i + 1, r => by cases r with | cons a b => exact .cons a (RepL.set q i b)
theorem RepL.erase {S : Hp} : ∀ {ds : List Dv} {vs : List V} (i : Nat), RepL G S vs ds → RepL G S (vs.eraseIdx i) (ds.eraseIdx i)
  | [], _, _, r => by cases r; exact .nil
  | _ :: ds, _, 0, r => by cases r with | cons a b => exact b
  | _ :: ds, _, i + 1, r => by cases r with | cons a b => exact .cons a (RepL.erase i b)
theorem RepL.dropLast {S : Hp} : ∀ {ds : List Dv} {vs : List V}, RepL G S vs ds → RepL G S vs.dropLast ds.dropLast
  | [], _, r => by cases r; exact .nil
  | [_], _, r => by
    cases r with
    | cons a b => cases b; exact .nil
  | _ :: _ :: ds, _, r => by
    cases r with
    | cons a b => cases b with
      | cons a2 b2 => exact .cons a (RepL.dropLast (.cons a2 b2))
theorem RepL.ints {S : Hp} : ∀ (is : List Int), RepL G S (is.map V.int) (is.map Dv.int)
  | [] => .nil
  | i :: r => .cons (.int i) (RepL.ints r)
theorem RepL.ints2 {S : Hp} : ∀ {ds : List Dv} {vs : List V} {is : List Int}, RepL G S vs ds → intsOf ds = some is → vs = is.map V.int
  | [], _, is, r, h => by
    cases r
    unfold intsOf at h
    cases h
    rfl
  | d :: ds, _, is, r, h => by
    cases r with
    | cons a b =>
      cases d with
      | int i =>
        cases a
        unfold intsOf at h
        cases q : intsOf ds with
        | none => rw [q] at h; cases h
        | some js =>
          rw [q] at h
          cases h
          rw [RepL.ints2 b q]
          rfl
      | _ => unfold intsOf at h; cases h
theorem RepL.bls2 {S : Hp} : ∀ {ds : List Dv} {vs : List V} {is : List Bool}, RepL G S vs ds → blsOf ds = some is → vs = is.map V.bl
  | [], _, is, r, h => by
    cases r
    unfold blsOf at h
    cases h
    rfl
  | d :: ds, _, is, r, h => by
    cases r with
    | cons a b =>
      cases d with
      | bl i =>
        cases a
        unfold blsOf at h
        cases q : blsOf ds with
        | none => rw [q] at h; cases h
        | some js =>
          rw [q] at h
          cases h
          rw [RepL.bls2 b q]
          rfl
      | _ => unfold blsOf at h; cases h
theorem intsOf_map {ds : List Dv} : ∀ {is : List Int}, intsOf ds = some is → ds = is.map Dv.int := by
  induction ds with
  | nil => intro is h; unfold intsOf at h; cases h; rfl
  | cons d r ih =>
    intro is h
    cases d with
    | int i =>
      unfold intsOf at h
      cases q : intsOf r with
      | none => rw [q] at h; cases h
      | some js =>
        rw [q] at h
        cases h
        rw [ih q]
        rfl
    | _ => unfold intsOf at h; cases h

/-! ### data that == reads -/
mutual
theorem RepS.dp {S : Hp} : ∀ {d : Dv} {v : V}, RepS G S v d → (toP d).canLay0 = true → Dp G.K S v (toP d)
  | .non, _, r, _ => by cases r; exact .non
  | .bl _, _, r, _ => by cases r; exact .bl _
  | .int _, _, r, _ => by cases r; exact .int _
  | .str _, _, r, _ => by cases r; exact .str _
  | .tup ds, _, r, h => by cases r with | tup a b c => exact .tup a (RepL.dp c h)
  | .lst ds, _, r, h => by cases r with | lst a b c => exact .lst a (RepL.dp c h)
  | .obj C fs, _, r, h => by cases h
  | .exc C t, _, r, h => by cases h
  | .dct _, _, r, h => by cases h
theorem RepL.dp {S : Hp} : ∀ {ds : List Dv} {vs : List V}, RepL G S vs ds → PyData.canLayAll0 (toPs ds) = true → DpAll G.K S vs (toPs ds)
  | [], _, r, _ => by cases r; exact .nil
  | d :: ds, _, r, h => by
    cases r with
    | cons a b =>
      have h2 : ((toP d).canLay0 && PyData.canLayAll0 (toPs ds)) = true := h
      obtain ⟨h3, h4⟩ := Bool.and_eq_true_iff.mp h2
      exact .cons (RepS.dp a h3) (RepL.dp b h4)
end
mutual
theorem Dp.mono {K : PySem.W.Frag} {S H : Hp} (h : Sub S H) : ∀ {d : PyData} {v : V}, Dp K S v d → Dp K H v d
  | .none, _, r => by cases r; exact .non
  | .bool _, _, r => by cases r; exact .bl _
  | .int _, _, r => by cases r; exact .int _
  | .str _, _, r => by cases r; exact .str _
  | .tuple ds, _, r => by cases r with | tup a c => exact .tup (h.sqT a) (DpAll.mono h c)
  | .list ds, _, r => by cases r with | lst a c => exact .lst (h.sqL a) (DpAll.mono h c)
  | .dict _, _, r => by cases r
theorem DpAll.mono {K : PySem.W.Frag} {S H : Hp} (h : Sub S H) : ∀ {ds : List PyData} {vs : List V}, DpAll K S vs ds → DpAll K H vs ds
  | [], _, r => by cases r; exact .nil
  | d :: ds, _, r => by cases r with | cons a b => exact .cons (Dp.mono h a) (DpAll.mono h b)
end

/-! ### a value that is read: its first layer in the heap, what it holds shared -/
variable (G)
def RepB (H S : Hp) (v : V) : Dv → Prop
  | .lst ds => ∃ a xs, v = .ref a ∧ SqL G.K H a xs ∧ xs.length ≤ LIM ∧ RepL G S xs ds
  | .obj C fs => ∃ a dx xs, v = .ref a ∧ H a = some (.ins (G.cA C) dx xs) ∧ C ∈ G.cs ∧ RepF G S xs fs
  | .dct kvs => ∃ a kv, v = .ref a ∧ H a = some (.dK kv) ∧ RepK G S kv kvs
  | d => RepS G S v d
variable {G}
theorem RepS.b {H S : Hp} {v : V} {d : Dv} (h : Sub S H) (r : RepS G S v d) : RepB G H S v d := by
  cases d with
  | lst ds =>
    cases r with
    | lst a b c => exact ⟨_, _, rfl, h.sqL a, b, c⟩
  | obj C fs =>
    cases r with
    | obj a c b => exact ⟨_, _, _, rfl, h _ _ a, c, b⟩
  | dct kvs =>
    cases r with
    | dct a b => exact ⟨_, _, rfl, h _ _ a, b⟩
  | _ => exact r
theorem RepB.mono {H S H' S' : Hp} {v : V} {d : Dv} (h : Sub H H') (s : Sub S S') (r : RepB G H S v d) : RepB G H' S' v d := by
  cases d with
  | lst ds =>
    obtain ⟨a, xs, e, l, z, q⟩ := r
    exact ⟨a, xs, e, h.sqL l, z, q.mono s⟩
  | obj C fs =>
    obtain ⟨a, dx, xs, e, l, c, q⟩ := r
    exact ⟨a, dx, xs, e, h _ _ l, c, q.mono s⟩
  | dct kvs =>
    obtain ⟨a, kv, e, l, q⟩ := r
    exact ⟨a, kv, e, h _ _ l, q.mono s⟩
  | _ => exact RepS.mono s r
theorem RepB.dp {H S : Hp} (h : Sub S H) {v : V} {d : Dv} (r : RepB G H S v d) (c : (toP d).canLay0 = true) : Dp G.K H v (toP d) := by
  cases d with
  | lst ds =>
    obtain ⟨a, xs, e, l, z, q⟩ := r
    rw [e]
    exact .lst l (DpAll.mono h (RepL.dp q c))
  | obj C fs => cases c
  | dct kvs => cases c
  | _ => exact Dp.mono h (RepS.dp r c)

/-! ### lists that are undone -/
variable (G)
mutual
/-- data whose lists are the program's own -/
def kRep (S : Hp) : Dv → V → Prop
  | .lst ds, v => ∃ a xs, v = .ref a ∧ S a = some (.lst xs) ∧ kReps S ds xs
  | .tup ds, v => ∃ a xs, v = .ref a ∧ SqT G.K S a xs ∧ kReps S ds xs
  | .bl b, v => v = .bl b
  | _, _ => True
def kReps (S : Hp) : List Dv → List V → Prop
  | [], [] => True
  | d :: ds, v :: vs => kRep S d v ∧ kReps S ds vs
  | _, _ => False
end
variable {G}
/-- nothing is changed but lists of S, and these have only lost or exchanged items -/
structure JK (S H H' : Hp) : Prop where
  eq : ∀ a, (∀ xs, S a ≠ some (.lst xs)) → H' a = H a
  ls : ∀ a xs, S a = some (.lst xs) → ∃ ys, H' a = some (.lst ys) ∧ ys.length ≤ xs.length ∧ ∀ y ∈ ys, y ∈ xs
theorem kReps_len {S : Hp} : ∀ {ds : List Dv} {vs : List V}, kReps G S ds vs → vs.length = ds.length
  | [], [], _ => rfl
  | d :: ds, v :: vs, h => by rw [List.length_cons, List.length_cons, kReps_len h.2]
  | [], _ :: _, h => h.elim
  | _ :: _, [], h => h.elim
theorem kReps_get {S : Hp} : ∀ {ds : List Dv} {vs : List V} {i : Nat} {d : Dv}, kReps G S ds vs → ds[i]? = some d → ∃ v, vs[i]? = some v ∧ kRep G S d v
  | d :: ds, v :: vs, 0, _, h, e => by
    rw [List.getElem?_cons_zero] at e
    cases e
    exact ⟨v, by rw [List.getElem?_cons_zero], h.1⟩
  | d :: ds, v :: vs, i + 1, _, h, e => by
    rw [List.getElem?_cons_succ] at e
    obtain ⟨w, e1, q⟩ := kReps_get h.2 e
    exact ⟨w, by rw [List.getElem?_cons_succ]; exact e1, q⟩
  | [], _, _, _, _, e => by cases e
  | _ :: _, [], _, _, h, _ => h.elim
theorem kReps_mem {S : Hp} : ∀ {ds : List Dv} {vs : List V} {v : V}, kReps G S ds vs → v ∈ vs → ∃ d ∈ ds, kRep G S d v
  | d :: ds, w :: vs, v, h, e => by
    rcases List.mem_cons.mp e with rfl | e
    · exact ⟨d, List.mem_cons_self, h.1⟩
    · obtain ⟨d', h1, h2⟩ := kReps_mem h.2 e
      exact ⟨d', List.mem_cons_of_mem _ h1, h2⟩
  | [], [], _, _, e => by cases e
  | [], _ :: _, _, h, _ => h.elim
  | _ :: _, [], _, h, _ => h.elim
theorem JK.refl {S H : Hp} (h : Sub S H) : JK S H H := ⟨fun _ _ => rfl, fun a xs e => ⟨xs, h _ _ e, Nat.le_refl _, fun _ z => z⟩⟩
theorem JK.sqT {S H H' : Hp} (j : JK S H H') (s : Sub S H) {a : Addr} {xs : List V} (h : SqT G.K S a xs) : SqT G.K H' a xs := by
  rcases h with (h | ⟨o, h⟩) | h
  · exact .inl (.inl (by rw [j.eq a fun ys e => by rw [h] at e; cases e]; exact s _ _ h))
  · exact .inl (.inr ⟨o, by rw [j.eq a fun ys e => by rw [h] at e; cases e]; exact s _ _ h⟩)
  · exact .inr h
/-- one list is changed -/
theorem JK.upd {S H H' : Hp} (j : JK S H H') {a : Addr} {xs ys zs : List V} (h : S a = some (.lst xs)) (h1 : H' a = some (.lst ys)) (hl : zs.length ≤ ys.length) (hm : ∀ z ∈ zs, z ∈ ys) : JK S H (L2.upd H' a (.lst zs)) := by
  refine ⟨fun b n => ?_, fun b us e => ?_⟩
  · have hb : b ≠ a := fun z => n xs (z ▸ h)
    rw [upd_ne hb]
    exact j.eq b n
  · by_cases hb : b = a
    · subst hb
      rw [h] at e
      cases e
      obtain ⟨ws, e1, e2, e3⟩ := j.ls b xs h
      rw [h1] at e1
      cases e1
      exact ⟨zs, upd_same, Nat.le_trans hl e2, fun z hz => e3 _ (hm z hz)⟩
    · rw [upd_ne hb]
      exact j.ls b us e
/-! ### frames -/
/-- an object that is not frozen -/
def Pl (o : HO) : Prop := ∀ o' u, o ≠ .frz o' u
/-- a frame's entry: the heap, what was shared, what it may change -/
structure Fm where
  H0 : Hp
  S0 : Hp
  M : List Addr
variable (G)
/-- the lists of a list of lists -/
def InnL (H0 H S : Hp) : List Addr → List (List Dv) → Prop
  | [], [] => True
  | b :: bs, ds :: dss => (∃ xs, H b = some (.lst xs) ∧ xs.length ≤ LIM ∧ RepL G S xs ds ∧ S b = none ∧ H0 b = none) ∧ InnL H0 H S bs dss
  | _, _ => False
/-- a slot's own -/
def Own (F : Fm) (H S : Hp) (v : V) : Sv → Prop
  | .sh d => RepS G S v d
  | .l1 ds => ∃ a xs, v = .ref a ∧ H a = some (.lst xs) ∧ xs.length ≤ LIM ∧ RepL G S xs ds ∧ S a = none ∧ F.H0 a = none
  | .m1 ds => ∃ a xs, v = .ref a ∧ H a = some (.lst xs) ∧ xs.length ≤ LIM ∧ RepL G S xs ds ∧ S a = none ∧ a ∈ F.M
  | .o1 C fs => ∃ a dx xs, v = .ref a ∧ H a = some (.ins (G.cA C) dx xs) ∧ C ∈ G.cs ∧ RepF G S xs fs ∧ S a = none ∧ a ∈ F.M
  | .d1 kvs => ∃ a kv, v = .ref a ∧ H a = some (.dK kv) ∧ RepK G S kv kvs ∧ S a = none ∧ F.H0 a = none
  | .l2 dss => ∃ a bs, v = .ref a ∧ H a = some (.lst (bs.map V.ref)) ∧ bs.length ≤ LIM ∧ InnL G F.H0 H S bs dss ∧ bs.Nodup ∧ a ∉ bs ∧ S a = none ∧ F.H0 a = none
  | _ => False
/-- the addresses that a slot owns -/
def ownA (H : Hp) : Sv → V → Addr → Prop
  | .sh _, _, _ => False
  | .l2 _, .ref a, b => b = a ∨ ∃ bs : List Addr, H a = some (.lst (bs.map V.ref)) ∧ b ∈ bs
  | _, .ref a, b => b = a
  | _, _, _ => False
structure Rel (F : Fm) (e : Env) (σ : St) (H S : Hp) : Prop where
  sub : Sub S H
  old : ∀ a o, a ∉ F.M → F.H0 a = some o → H a = some o
  keep : ∀ a, F.H0 a ≠ none → H a ≠ none
  s0 : Sub F.S0 S
  new : ∀ a o, S a = some o → F.S0 a = some o ∨ (F.H0 a = none ∧ Pl o)
  len : e.length = σ.length
  sl : ∀ i sv, slot e i = some sv → ∃ v, σ[i]? = some (some v) ∧ Own G F H S v sv
  ap : ∀ i j sv sw v w a, i ≠ j → slot e i = some sv → slot e j = some sw → σ[i]? = some (some v) → σ[j]? = some (some w) → ownA H sv v a → ¬ ownA H sw w a
/-- more stands, nothing changed -/
structure Grow (H S H' S' : Hp) : Prop where
  h : Sub H H'
  s : Sub S S'
  sub : Sub S' H'
  new : ∀ a o, S' a = some o → S a = some o ∨ (H a = none ∧ Pl o)
variable {G}
theorem Grow.refl {H S : Hp} (h : Sub S H) : Grow H S H S := ⟨.refl H, .refl S, h, fun _ _ q => .inl q⟩
theorem Grow.trans {H S H1 S1 H2 S2 : Hp} (a : Grow H S H1 S1) (b : Grow H1 S1 H2 S2) : Grow H S H2 S2 := ⟨a.h.trans b.h, a.s.trans b.s, b.sub, fun x o q => by
  rcases b.new x o q with q | q
  · exact a.new x o q
  · exact .inr ⟨a.h.none q.1, q.2⟩⟩
/-- a new object that is shared at once -/
theorem Grow.add {H S : Hp} {p : Addr} {o : HO} (h : Sub S H) (n : H p = none) (pl : Pl o := by intro _ _ h; cases h) : Grow H S (upd H p o) (upd S p o) := by
  have ns := h.none n
  refine ⟨.new n, .new ns, fun a u q => ?_, fun a u q => ?_⟩
  · by_cases e : a = p
    · subst e; rw [upd_same] at q ⊢; exact q
    · rw [upd_ne e] at q ⊢; exact h _ _ q
  · by_cases e : a = p
    · subst e; rw [upd_same] at q; cases q; exact .inr ⟨n, pl⟩
    · rw [upd_ne e] at q; exact .inl q
/-- a new object that stays its maker's -/
theorem Grow.own {H S : Hp} {p : Addr} {o : HO} (h : Sub S H) (n : H p = none) : Grow H S (upd H p o) S :=
  ⟨.new n, .refl S, h.trans (.new n), fun _ _ q => .inl q⟩
theorem Grow.none {H S H' S' : Hp} (g : Grow H S H' S') {a : Addr} {o : HO} (h : H a = some o) (s : S a = none) : S' a = none := by
  cases q : S' a with
  | none => rfl
  | some u =>
    rcases g.new a u q with z | ⟨z, _⟩
    · rw [s] at z; cases z
    · rw [h] at z; cases z
theorem InnL.mono {H0 H S H' S' : Hp} (g : Grow H S H' S') : ∀ {bs : List Addr} {dss : List (List Dv)}, InnL G H0 H S bs dss → InnL G H0 H' S' bs dss
  | [], [], _ => trivial
  | b :: bs, ds :: dss, ⟨⟨xs, h, z, q, n, f⟩, t⟩ => ⟨⟨xs, g.h _ _ h, z, q.mono g.s, g.none h n, f⟩, InnL.mono g t⟩
  | [], _ :: _, h => h.elim
  | _ :: _, [], h => h.elim
theorem ref_inj : ∀ {as bs : List Addr}, as.map V.ref = bs.map V.ref → as = bs
  | [], [], _ => rfl
  | [], _ :: _, h => by cases h
  | _ :: _, [], h => by cases h
  | a :: as, b :: bs, h => by
    rw [List.map_cons, List.map_cons] at h
    injection h with h1 h2
    injection h1 with h1
    rw [h1, ref_inj h2]
theorem InnL.at {H0 H S : Hp} : ∀ {bs : List Addr} {dss : List (List Dv)} {b : Addr}, InnL G H0 H S bs dss → b ∈ bs → (∃ xs, H b = some (.lst xs)) ∧ S b = none ∧ H0 b = none
  | c :: bs, ds :: dss, b, ⟨⟨xs, h, z, q, n, f⟩, t⟩, hb => by
    rcases List.mem_cons.mp hb with rfl | hb
    · exact ⟨⟨xs, h⟩, n, f⟩
    · exact InnL.at t hb
  | c :: bs, [], b, h, _ => h.elim
theorem Own.mono {F : Fm} {H S H' S' : Hp} (g : Grow H S H' S') {v : V} {sv : Sv} (r : Own G F H S v sv) : Own G F H' S' v sv := by
  cases sv with
  | sh d => exact RepS.mono g.s r
  | l1 ds =>
    obtain ⟨a, xs, e, h, z, q, n, f⟩ := r
    exact ⟨a, xs, e, g.h _ _ h, z, q.mono g.s, g.none h n, f⟩
  | m1 ds =>
    obtain ⟨a, xs, e, h, z, q, n, f⟩ := r
    exact ⟨a, xs, e, g.h _ _ h, z, q.mono g.s, g.none h n, f⟩
  | o1 C fs =>
    obtain ⟨a, dx, xs, e, h, c, q, n, f⟩ := r
    exact ⟨a, dx, xs, e, g.h _ _ h, c, q.mono g.s, g.none h n, f⟩
  | d1 kvs =>
    obtain ⟨a, kv, e, h, q, n, f⟩ := r
    exact ⟨a, kv, e, g.h _ _ h, q.mono g.s, g.none h n, f⟩
  | l2 dss =>
    obtain ⟨a, bs, e, h, z, q, nd, na, n, f⟩ := r
    exact ⟨a, bs, e, g.h _ _ h, z, q.mono g, nd, na, g.none h n, f⟩
  | _ => exact r
/-- what is owned stays as it is where its cell stays -/
theorem ownA_back {F : Fm} {H S H' : Hp} {sv : Sv} {v : V} {b : Addr} (r : Own G F H S v sv) (h : ∀ a, v = .ref a → H' a = H a) (o : ownA H' sv v b) : ownA H sv v b := by
  cases sv with
  | l2 dss =>
    obtain ⟨a, bs, rfl, ha, _⟩ := r
    rcases o with o | ⟨cs, e, o⟩
    · exact .inl o
    · exact .inr ⟨cs, by rw [← h a rfl]; exact e, o⟩
  | sh d => exact o
  | l1 ds => cases v <;> exact o
  | m1 ds => cases v <;> exact o
  | d1 ds => cases v <;> exact o
  | o1 C fs => cases v <;> exact o
  | bw d => cases v <;> exact o
theorem own_at {F : Fm} {H S : Hp} {sv : Sv} {v : V} (r : Own G F H S v sv) : (∃ d, sv = .sh d) ∨ ∃ a o, v = .ref a ∧ H a = some o := by
  cases sv with
  | sh d => exact .inl ⟨d, rfl⟩
  | l1 ds =>
    obtain ⟨a, xs, e, h, _⟩ := r
    exact .inr ⟨a, _, e, h⟩
  | m1 ds =>
    obtain ⟨a, xs, e, h, _⟩ := r
    exact .inr ⟨a, _, e, h⟩
  | o1 C fs =>
    obtain ⟨a, dx, xs, e, h, _⟩ := r
    exact .inr ⟨a, _, e, h⟩
  | d1 kvs =>
    obtain ⟨a, kv, e, h, _⟩ := r
    exact .inr ⟨a, _, e, h⟩
  | l2 dss =>
    obtain ⟨a, bs, e, h, _⟩ := r
    exact .inr ⟨a, _, e, h⟩
  | bw d => exact r.elim
theorem ownA_sub {F : Fm} {H S H' : Hp} {sv : Sv} {v : V} {b : Addr} (g : Sub H H') (r : Own G F H S v sv) (o : ownA H' sv v b) : ownA H sv v b := by
  rcases own_at r with ⟨d, rfl⟩ | ⟨a, u, rfl, h⟩
  · exact o
  · exact ownA_back r (fun c e => by cases e; rw [h, g _ _ h]) o
theorem Rel.mono {F : Fm} {e : Env} {σ : St} {H S H' S' : Hp} (R : Rel G F e σ H S) (g : Grow H S H' S') : Rel G F e σ H' S' where
  sub := g.sub
  old := fun a o m h => g.h _ _ (R.old a o m h)
  keep := fun a h z => R.keep a h (g.h.none z)
  s0 := R.s0.trans g.s
  new := fun a o h => by
    rcases g.new a o h with q | ⟨q, pl⟩
    · exact R.new a o q
    · refine .inr ⟨?_, pl⟩
      cases z : F.H0 a with
      | none => rfl
      | some u => exact absurd q (R.keep a (by rw [z]; simp))
  len := R.len
  sl := fun i sv h => by
    obtain ⟨v, e1, q⟩ := R.sl i sv h
    exact ⟨v, e1, q.mono g⟩
  ap := fun i j sv sw v w a hij h1 h2 h3 h4 h5 h6 => by
    obtain ⟨v', e1, q1⟩ := R.sl i sv h1
    obtain ⟨w', e2, q2⟩ := R.sl j sw h2
    rw [h3] at e1
    rw [h4] at e2
    cases e1
    cases e2
    exact R.ap i j sv sw v w a hij h1 h2 h3 h4 (ownA_sub g.h q1 h5) (ownA_sub g.h q2 h6)
theorem slot_get {sv : Sv} : ∀ {e : Env} {i : Nat}, slot e i = some sv ↔ e[i]? = some (some sv) := by
  intro e
  induction e with
  | nil => intro i; simp [slot]
  | cons o r ih =>
    intro i
    cases i with
    | zero => simp [slot]
    | succ i => rw [List.getElem?_cons_succ]; exact ih
theorem slot_set {e : Env} {i j : Nat} {o : Option Sv} {sv : Sv} (h : slot (e.set i o) j = some sv) : (j = i ∧ o = some sv) ∨ (j ≠ i ∧ slot e j = some sv) := by
  rw [slot_get] at h
  by_cases q : i = j
  · subst q
    rw [List.getElem?_set] at h
    rw [if_pos rfl] at h
    split at h
    · exact .inl ⟨rfl, by injection h⟩
    · cases h
  · rw [List.getElem?_set_ne q] at h
    exact .inr ⟨fun z => q z.symm, slot_get.mpr h⟩
theorem slot_lt {e : Env} {i : Nat} {sv : Sv} (h : slot e i = some sv) : i < e.length := (List.getElem?_eq_some_iff.mp (slot_get.mp h)).1
theorem set_get_self {σ : St} {i : Nat} {o : Option V} (h : i < σ.length) : (σ.set i o)[i]? = some o := by
  rw [List.getElem?_set_self h]
/-- nothing that a slot owns is new -/
theorem own_there {F : Fm} {H S : Hp} {sv : Sv} {v : V} {a : Addr} (q : Own G F H S v sv) (ha : ownA H sv v a) : (∃ o, H a = some o) ∧ S a = none := by
  cases sv with
  | sh d => exact ha.elim
  | l1 ds =>
    obtain ⟨b, xs, rfl, hb, _, _, hn, _⟩ := q
    obtain rfl : a = b := ha
    exact ⟨⟨_, hb⟩, hn⟩
  | m1 ds =>
    obtain ⟨b, xs, rfl, hb, _, _, hn, _⟩ := q
    obtain rfl : a = b := ha
    exact ⟨⟨_, hb⟩, hn⟩
  | o1 C fs =>
    obtain ⟨b, dx, xs, rfl, hb, _, _, hn, _⟩ := q
    obtain rfl : a = b := ha
    exact ⟨⟨_, hb⟩, hn⟩
  | d1 kvs =>
    obtain ⟨b, kv, rfl, hb, _, hn, _⟩ := q
    obtain rfl : a = b := ha
    exact ⟨⟨_, hb⟩, hn⟩
  | l2 dss =>
    obtain ⟨b, bs, rfl, hb, _, hi, _, _, hn, _⟩ := q
    rcases ha with rfl | ⟨cs, e, hc⟩
    · exact ⟨⟨_, hb⟩, hn⟩
    · rw [hb] at e
      injection e with e
      injection e with e
      rw [← ref_inj e] at hc
      obtain ⟨⟨xs, h1⟩, h2, _⟩ := hi.at hc
      exact ⟨⟨_, h1⟩, h2⟩
  | bw d => exact q.elim
theorem Rel.ownA_there {F : Fm} {e : Env} {σ : St} {H S : Hp} (R : Rel G F e σ H S) {i : Nat} {sv : Sv} {v : V} {a : Addr} (h : slot e i = some sv) (hv : σ[i]? = some (some v)) (ha : ownA H sv v a) : (∃ o, H a = some o) ∧ S a = none := by
  obtain ⟨w, e1, q⟩ := R.sl i sv h
  rw [hv] at e1
  cases e1
  exact own_there q ha
/-- a slot is stored to -/
theorem Rel.put {F : Fm} {e : Env} {σ : St} {H S : Hp} (R : Rel G F e σ H S) {i : Nat} {sv : Sv} {v : V} (q : Own G F H S v sv)
    (ha : ∀ a, ownA H sv v a → ∀ j sw w, j ≠ i → slot e j = some sw → σ[j]? = some (some w) → ¬ ownA H sw w a) : Rel G F (e.set i (some sv)) (σ.set i (some v)) H S where
  sub := R.sub
  old := R.old
  keep := R.keep
  s0 := R.s0
  new := R.new
  len := by rw [List.length_set, List.length_set]; exact R.len
  sl := fun j sw h => by
    have hj := slot_lt h
    rw [List.length_set] at hj
    rcases slot_set h with ⟨rfl, e1⟩ | ⟨hne, e1⟩
    · cases e1
      exact ⟨v, by rw [set_get_self (by rw [← R.len]; exact hj)], q⟩
    · obtain ⟨w, e2, q2⟩ := R.sl j sw e1
      exact ⟨w, by rw [List.getElem?_set_ne (fun z => hne z.symm)]; exact e2, q2⟩
  ap := fun j k sw su w u a hjk h1 h2 h3 h4 h5 h6 => by
    have l1 := slot_lt h1
    have l2 := slot_lt h2
    rw [List.length_set] at l1 l2
    rw [R.len] at l1 l2
    rcases slot_set h1 with ⟨rfl, e1⟩ | ⟨n1, e1⟩
    · rcases slot_set h2 with ⟨rfl, e2⟩ | ⟨n2, e2⟩
      · exact hjk rfl
      · cases e1
        rw [set_get_self l1] at h3
        cases h3
        rw [List.getElem?_set_ne (fun z => n2 z.symm)] at h4
        exact ha a h5 k su u n2 e2 h4 h6
    · rw [List.getElem?_set_ne (fun z => n1 z.symm)] at h3
      rcases slot_set h2 with ⟨rfl, e2⟩ | ⟨n2, e2⟩
      · cases e2
        rw [set_get_self l2] at h4
        cases h4
        exact ha a h6 j sw w n1 e1 h3 h5
      · rw [List.getElem?_set_ne (fun z => n2 z.symm)] at h4
        exact R.ap j k sw su w u a hjk e1 e2 h3 h4 h5 h6
theorem Rel.putS {F : Fm} {e : Env} {σ : St} {H S : Hp} (R : Rel G F e σ H S) {i : Nat} {d : Dv} {v : V} (q : RepS G S v d) : Rel G F (e.set i (some (.sh d))) (σ.set i (some v)) H S :=
  R.put (sv := .sh d) q fun a h => h.elim
/-- a slot is forgotten -/
theorem Rel.drop {F : Fm} {e : Env} {σ : St} {H S : Hp} (R : Rel G F e σ H S) {i : Nat} {o : Option V} : Rel G F (e.set i none) (σ.set i o) H S where
  sub := R.sub
  old := R.old
  keep := R.keep
  s0 := R.s0
  new := R.new
  len := by rw [List.length_set, List.length_set]; exact R.len
  sl := fun j sw h => by
    rcases slot_set h with ⟨rfl, e1⟩ | ⟨hne, e1⟩
    · cases e1
    · obtain ⟨w, e2, q2⟩ := R.sl j sw e1
      exact ⟨w, by rw [List.getElem?_set_ne (fun z => hne z.symm)]; exact e2, q2⟩
  ap := fun j k sw su w u a hjk h1 h2 h3 h4 h5 h6 => by
    rcases slot_set h1 with ⟨rfl, e1⟩ | ⟨n1, e1⟩
    · cases e1
    · rcases slot_set h2 with ⟨rfl, e2⟩ | ⟨n2, e2⟩
      · cases e2
      · rw [List.getElem?_set_ne (fun z => n1 z.symm)] at h3
        rw [List.getElem?_set_ne (fun z => n2 z.symm)] at h4
        exact R.ap j k sw su w u a hjk e1 e2 h3 h4 h5 h6
end Dg

/-! The operators on data, as the hand layer's rules have them. -/
namespace Dg
open PySem PySem.Spec L2
theorem lim : LIM = sizeLine := by rw [sizeLine_eq]; rfl
section
variable {X : Cx}
/-! ### rules of our own -/
theorem op_mulX : OpR X (binaryOp .Mult) (rI MulOk fun i j => .int (i * j)) := opI fun i j _ _ _ _ _ hc q => by
  rcases hc with h | h | h
  · exact PyProof.Rows.mul_int q (CMul.ok (.inl (by omega)))
  · exact PyProof.Rows.mul_int q (CMul.ok (.inr (by omega)))
  · exact PyProof.Rows.mul_int q (CMulW.ok h)
theorem op_fdivX : OpR X (binaryOp .FloorDiv) (rI (fun _ j => j ≠ 0 ∧ j.natAbs.log2 < 9000) fun i j => .int (i.fdiv j)) := opI fun i j _ _ _ _ _ hc q =>
  PyProof.Rows.floordiv_int hc.1 q (.inl (PyProof.noPylong_of_log2 hc.2))
theorem fdivD_eq (i j : Int) : fdivD i j = i.fdiv j := by
  unfold fdivD
  split
  · rename_i h; rw [Int.fdiv_eq_ediv_of_nonneg i h]
  · rfl
theorem fmodD_eq (i j : Int) : fmodD i j = i.fmod j := by
  unfold fmodD
  split
  · rename_i h; rw [Int.fmod_eq_emod_of_nonneg i h]
  · rfl
/-- list + list, whatever the lists -/
def rCatL (K : PySem.W.Frag) : R2 := fun x y H Q => ∃ l b xs zs, x = .ref l ∧ y = .ref b ∧ SqL K H l xs ∧ SqL K H b zs ∧ xs.length + zs.length ≤ sizeLine ∧ ∀ p, H p = none → Q (.ref p) (upd H p (.lst (xs ++ zs)))
theorem op_catL : OpR X (binaryOp .Add) (rCatL X.K) := by
  intro pins s σ H x y v u Q I rx ry h
  obtain ⟨l, b, xs, zs, rfl, rfl, hH, hB, hz, q⟩ := h
  cases rx
  cases ry
  obtain ⟨its, r, ⟨⟨cls, dd, data, sl⟩, n, ho, hc, hdn, hd⟩, z⟩ := I.list hH
  obtain ⟨its2, r2, ⟨⟨cls2, dd2, data2, sl2⟩, n2, ho2, hc2, hdn2, hd2⟩, z2⟩ := I.list hB
  simp only at hc hd hc2 hd2
  subst hc hd hc2 hd2
  have e1 := r.length
  have e2 := r2.length
  have e : its.toArray ++ its2.toArray = (its ++ its2).toArray := by simp
  refine concat_meets ⟨_, ho, rfl⟩ ⟨_, ho2, rfl⟩ PySem.noFill_list_add PySem.seq_list_add PySem.F.slot_list_add PySem.F.entry_list_add (PySem.F.args_list_add_2 _ _) (PyProof.Rows.list_addW l b its.toArray its2.toArray n n2 dd dd2 sl sl2 (by simp only [List.size_toArray]; omega)) ⟨ho, ho2, ?_⟩
  rw [e]
  exact ⟨.ref _, _, I.lnew (t' := s.toks) (r.append r2) (by rw [List.length_append]; omega), rfl, q _ I.fresh⟩
/-- list * int, whatever the list -/
theorem int_rmul_listW (a : Int) (t : Tok) (l : Addr) (items : Array Value) (n : Nat) (dd : Option Addr) (sl : Array (Option Value)) :
    Meets (Builtin.«int.__rmul__» ⟨[.int a t, .ref l], []⟩) (fun _ R s => s.heap.get? l = some { cls := .type "list", dict := dd, data := .seq items n, slots := sl } ∧ R (.ok (.ret Value.notImplemented)) s) :=
  .of_wp fun prog w A R s h => by obtain ⟨hp, g, d, tk, os⟩ := s; obtain ⟨hl, h⟩ := h; wp_walk using wpAny_loadPart' hl; exact ⟨_, rfl, h⟩
theorem list_mulW (l : Addr) (items : Array Value) (n : Nat) (dd : Option Addr) (sl : Array (Option Value)) (x : Int) (u : Tok) (hc0 : ¬(!Builtin.List.listFitsIndex x) = true) (hc1 : ¬items.size * x.toNat > (2 ^ 63 - 1) / 8) (hc2 : ¬Builtin.List.listTooLong (items.size * x.toNat) = true) :
    Meets (Builtin.«list.__mul__» ⟨[.ref l, .int x u], []⟩) (fun _ R s => s.heap.get? l = some { cls := .type "list", dict := dd, data := .seq items n, slots := sl } ∧ R (.ok (.ret (Value.ref s.heap.objs.size))) { s with heap := s.heap.push { cls := Value.type "list", data := Data.seq (List.foldl (fun x1 x2 => x1 ++ x2) #[] (List.replicate (if items.isEmpty = true then 0 else x.toNat) items)) }, toks := s.toks }) :=
  .of_wp fun prog w A R s h => by
    obtain ⟨hp, g, d, tk, os⟩ := s; obtain ⟨hl, h⟩ := h
    have hsz := AutoListH.joined_fits hc2
    wp_walk using wpAny_loadPart' hl
    refine wpAny_ite_false (decide_eq_false (Nat.not_lt.mpr hsz)) ?_
    wp_walk using wpAny_loadPart' hl
    exact ⟨_, rfl, h⟩
def rRepL (K : PySem.W.Frag) : R2 := fun x y H Q => ∃ l k xs, x = .ref l ∧ y = .int k ∧ SqL K H l xs ∧ -(2 ^ 63) ≤ k ∧ k < 2 ^ 63 ∧ xs.length * k.toNat ≤ sizeLine ∧ ∀ p, H p = none → Q (.ref p) (upd H p (.lst (List.replicate k.toNat xs).flatten))
theorem op_repL : OpR X (binaryOp .Mult) (rRepL X.K) := by
  intro pins s σ H x y v u Q I rx ry h
  obtain ⟨l, k, xs, rfl, rfl, hH, h1, h2, hz, q⟩ := h
  cases rx
  obtain ⟨t, rfl⟩ := ry
  obtain ⟨its, r, ⟨⟨cls, dd, data, sl⟩, n, ho, hc, hdn, hd⟩, z⟩ := I.list hH
  simp only at hc hd
  subst hc hd
  have hl := r.length
  have hlen : its.toArray.size * k.toNat ≤ sizeLine := by rw [List.size_toArray, ← hl]; exact hz
  have hcap : ¬ its.toArray.size * k.toNat > (2 ^ 63 - 1) / 8 := by
    have : (sizeLine : Nat) ≤ (2 ^ 63 - 1) / 8 := by decide
    omega
  have hfit : ¬ (!Builtin.List.listFitsIndex k) = true := by
    rw [fitsIndex_both h1 h2]
    exact Bool.false_ne_true
  have hlong : ¬ Builtin.List.listTooLong (its.toArray.size * k.toNat) = true := by
    rw [notLongL hlen]
    exact Bool.false_ne_true
  have hnew : List.foldl (fun x1 x2 => x1 ++ x2) #[] (List.replicate (if its.toArray.isEmpty = true then 0 else k.toNat) its.toArray) = (List.replicate k.toNat its).flatten.toArray := by
    have f0 : ∀ m : Nat, List.foldl (fun x1 x2 => x1 ++ x2) #[] (List.replicate m its.toArray) = (List.replicate m its).flatten.toArray := fun m => by
      have := foldl_rep its m []
      rw [List.nil_append] at this
      exact this
    rw [f0]
    cases its with
    | nil => simp
    | cons a r' => rw [if_neg (by simp)]
  refine wpAny_binaryOp_repeat_ref (T := "list") (U := "int") (by decide) ⟨_, ho, rfl⟩ (fun s' => typeIs_int s' k t) noFill_list_mul PySem.F.fills_int_mul PySem.F.slot_int_rmul repeat_list PySem.F.slot_int_index.lookup
    (call_meets PySem.F.slot_int_rmul (typeIs_int s k t) PySem.F.entry_int_rmul (PySem.F.args_int_rmul_2 _ _) (int_rmul_listW k t l its.toArray n dd sl)
      ⟨ho, rfl, ⟨_, ho, rfl⟩, call_meets PySem.F.slot_list_mul ⟨_, ho, rfl⟩ PySem.F.entry_list_mul (PySem.F.args_list_mul_2 _ _) (list_mulW l its.toArray n dd sl k t hfit hcap hlong) ⟨ho, ?_⟩⟩)
  rw [hnew]
  exact ⟨.ref _, _, I.lnew (t' := s.toks) (r.rep k.toNat) (by rw [PyProof.Rows.lm_len_rep_flat, Nat.mul_comm]; exact hz), rfl, q _ I.fresh⟩
/-- x in t, x not in t, t a tuple -/
def rInT (K : PySem.W.Frag) : R2 := fun x y H Q => ∃ d ds, Dp K H x d ∧ Dp K H y (.tuple ds) ∧ SeqAt.shaped d = true ∧ SeqAt.shaped (.tuple ds) = true ∧ Q (.bl (ds.any fun z => PyData.eqv z d)) H
def rNotInT (K : PySem.W.Frag) : R2 := fun x y H Q => ∃ d ds, Dp K H x d ∧ Dp K H y (.tuple ds) ∧ SeqAt.shaped d = true ∧ SeqAt.shaped (.tuple ds) = true ∧ Q (.bl (!ds.any fun z => PyData.eqv z d)) H
theorem op_inT (hu : X.A.units + 65 < cLine) : OpR X (compareOp .In) (rInT X.K) := by
  intro pins s σ H x y v u Q I rx ry h
  obtain ⟨d, ds, hd, he, sd, se, q⟩ := h
  obtain ⟨as, r1⟩ := Dp.reads I d x v hd rx
  obtain ⟨bs, r2⟩ := Dp.reads I (.tuple ds) y u he ry
  exact SeqAt.in_tuple_reads r2 r1 (SeqAt.canLay_of_shaped se) (SeqAt.canLay_of_shaped sd) (PyProof.Rows.room_in_shaped sd hu) ⟨.bl _, H, I, rfl, q⟩
theorem op_notInT (hu : X.A.units + 65 < cLine) : OpR X (compareOp .NotIn) (rNotInT X.K) := by
  intro pins s σ H x y v u Q I rx ry h
  obtain ⟨d, ds, hd, he, sd, se, q⟩ := h
  obtain ⟨as, r1⟩ := Dp.reads I d x v hd rx
  obtain ⟨bs, r2⟩ := Dp.reads I (.tuple ds) y u he ry
  exact SeqAt.notIn_tuple_reads r2 r1 (SeqAt.canLay_of_shaped se) (SeqAt.canLay_of_shaped sd) (PyProof.Rows.room_in_shaped sd hu) ⟨.bl _, H, I, rfl, q⟩
/-! ### what an operator asks -/
def rOr (r r' : R2) : R2 := fun x y H Q => r x y H Q ∨ r' x y H Q
def rNo : R2 := fun _ _ _ _ => False
theorem op_no {f : Value → Value → Sem Value} : OpR X f rNo := fun _ _ _ _ _ _ _ _ _ _ _ _ h => h.elim
def rAddS : R2 := fun x y H Q => ∃ i j, x = .str i ∧ y = .str j ∧ i.length + j.length ≤ sizeLine ∧ Q (.str (i ++ j)) H
def rBin (K : PySem.W.Frag) : Operator → R2
  | .Add => rOr (rI0 fun i j => .int (i + j)) (rOr rAddS (rOr (rCatA K) (rCatL K)))
  | .Sub => rI0 fun i j => .int (i - j)
  | .Mult => rOr (rI MulOk fun i j => .int (i * j)) (rRepL K)
  | .FloorDiv => rI (fun _ j => j ≠ 0 ∧ j.natAbs.log2 < 9000) fun i j => .int (i.fdiv j)
  | .Mod => rI (fun _ j => j ≠ 0) fun i j => .int (i.fmod j)
  | .Pow => rI CPow fun i j => .int (i ^ j.toNat)
  | .LShift => rI CPow fun i j => .int (i * 2 ^ j.toNat)
  | .RShift => rI (fun _ j => 0 ≤ j) fun i j => .int (i / 2 ^ j.toNat)
  | .BitAnd => rI0 fun i j => .int (Builtin.bitAnd i j)
  | _ => rNo
theorem op_bin (op : Operator) : OpR X (binaryOp op) (rBin X.K op) := by
  cases op with
  | Add => exact op_add.or (op_add_str.or (op_catA.or op_catL))
  | Sub => exact op_sub
  | Mult => exact op_mulX.or op_repL
  | FloorDiv => exact op_fdivX
  | Mod => exact op_modN
  | Pow => exact op_pow
  | LShift => exact op_shl
  | RShift => exact op_shr
  | BitAnd => exact op_and
  | _ => exact op_no
def rInK (f : Bool → Bool) : R2 := fun x y H Q => ∃ i a kv, x = .int i ∧ y = .ref a ∧ H a = some (.dK kv) ∧ Q (.bl (f (valV kv (.inl i)).isSome)) H
theorem op_inK (hu : X.A.units + 1 < cLine) : OpR X (compareOp .In) (rInK id) := by
  intro pins s σ H x y v u Q I rx ry h
  obtain ⟨i, a, kv, rfl, rfl, ha, q⟩ := h
  obtain rfl : u = Value.ref a := ry
  exact d_in hu I (.inl ⟨kv, .inl i, .inl ha, rfl, rfl⟩) rx fun s3 I3 => ⟨.bl _, H, I3, rfl, q⟩
theorem op_notInK (hu : X.A.units + 1 < cLine) : OpR X (compareOp .NotIn) (rInK not) := by
  intro pins s σ H x y v u Q I rx ry h
  obtain ⟨i, a, kv, rfl, rfl, ha, q⟩ := h
  obtain rfl : u = Value.ref a := ry
  exact d_notIn hu I (.inl ⟨kv, .inl i, .inl ha, rfl, rfl⟩) rx fun s3 I3 => ⟨.bl _, H, I3, rfl, q⟩
def rCmp (K : PySem.W.Frag) : CmpOp → R2
  | .Eq => rEqD K
  | .NotEq => rNeD K
  | .Lt => rI0 fun i j => .bl (decide (i < j))
  | .LtE => rI0 fun i j => .bl (decide (i ≤ j))
  | .Gt => rI0 fun i j => .bl (decide (j < i))
  | .GtE => rI0 fun i j => .bl (decide (j ≤ i))
  | .In => rOr (rInD K) (rOr (rInT K) (rInK id))
  | .NotIn => rOr (rNotInD K) (rOr (rNotInT K) (rInK not))
  | .Is => fun x y H Q => y = .non ∧ Q (.bl (decide (x = .non))) H
  | .IsNot => fun x y H Q => y = .non ∧ Q (.bl (!decide (x = .non))) H
theorem op_cmp (hu : X.A.units + 65 < cLine) (op : CmpOp) : OpR X (compareOp op) (rCmp X.K op) := by
  cases op with
  | Eq => exact op_eqD (by omega)
  | NotEq => exact op_neD (by omega)
  | Lt => exact op_lt
  | LtE => exact op_le
  | Gt => exact op_gt
  | GtE => exact op_ge
  | In => exact (op_inD hu).or ((op_inT hu).or (op_inK (by omega)))
  | NotIn => exact (op_notInD hu).or ((op_notInT hu).or (op_notInK (by omega)))
  | Is => exact op_isN
  | IsNot => exact op_notN
end

/-! ### what comes of an expression -/
variable (G : Gx)
/-- a value handed on: shared, new and its maker's, or lent. H0: the heap ahead of the expression -/
def RepV (H0 H S : Hp) (v : V) : Sv → Prop
  | .sh d => RepS G S v d
  | .l1 ds => ∃ a xs, v = .ref a ∧ H a = some (.lst xs) ∧ xs.length ≤ LIM ∧ RepL G S xs ds ∧ S a = none ∧ H0 a = none
  | .bw d => RepB G H S v d
  | .d1 kvs => ∃ a kv, v = .ref a ∧ H a = some (.dK kv) ∧ RepK G S kv kvs ∧ S a = none ∧ H0 a = none
  | _ => False
/-- what is wanted of an exception -/
def ExW (W : WX) (σ : L2.St) (H : Hp) (C : Nat) (t : Option Int) : Prop := match t with
  | none => W (.ref (G.cA C)) none σ H
  | some i => ∀ dx, H dx = some (.xd [("at", .int i)]) → W (.ref (G.cA C)) (some dx) σ H
def Out (W : WX) (σ : L2.St) (H S : Hp) (r : Rs Sv) (Q : VK) : Prop := match r with
  | .ok sv => ∀ v H' S', Grow H S H' S' → RepV G H H' S' v sv → Q v H'
  | .ex C t => ∀ H' S', Grow H S H' S' → ExW G W σ H' C t
  | .no => False
variable {G}
theorem RepV.b {H0 H S : Hp} (h : Sub S H) {v : V} {sv : Sv} (r : RepV G H0 H S v sv) : RepB G H S v sv.toD := by
  cases sv with
  | sh d => exact RepS.b h r
  | l1 ds =>
    obtain ⟨a, xs, e, q, z, l, _⟩ := r
    exact ⟨a, xs, e, .inl (.inl q), z, l⟩
  | bw d => exact r
  | d1 kvs =>
    obtain ⟨a, kv, e, q, l, _⟩ := r
    exact ⟨a, kv, e, q, l⟩
  | _ => exact r.elim
theorem RepV.mono {H0 H S H' S' : Hp} (g : Grow H S H' S') {v : V} {sv : Sv} (r : RepV G H0 H S v sv) : RepV G H0 H' S' v sv := by
  cases sv with
  | sh d => exact RepS.mono g.s r
  | l1 ds =>
    obtain ⟨a, xs, e, h, z, q, n, f⟩ := r
    exact ⟨a, xs, e, g.h _ _ h, z, q.mono g.s, g.none h n, f⟩
  | bw d => exact RepB.mono g.h g.s r
  | d1 kvs =>
    obtain ⟨a, kv, e, h, q, n, f⟩ := r
    exact ⟨a, kv, e, g.h _ _ h, q.mono g.s, g.none h n, f⟩
  | _ => exact r
/-- a later start -/
theorem RepV.later {H0 H1 H S : Hp} (h : Sub H0 H1) {v : V} {sv : Sv} (r : RepV G H1 H S v sv) : RepV G H0 H S v sv := by
  cases sv with
  | l1 ds =>
    obtain ⟨a, xs, e, q, z, l, n, f⟩ := r
    exact ⟨a, xs, e, q, z, l, n, h.none f⟩
  | d1 kvs =>
    obtain ⟨a, kv, e, q, l, n, f⟩ := r
    exact ⟨a, kv, e, q, l, n, h.none f⟩
  | _ => exact r
theorem Out.later {W : WX} {σ : L2.St} {H S H1 S1 : Hp} (g : Grow H S H1 S1) {r : Rs Sv} {Q : VK} (h : Out G W σ H S r Q) : Out G W σ H1 S1 r Q := by
  cases r with
  | ok sv => exact fun v H' S' g' q => h v H' S' (g.trans g') (q.later g.h)
  | ex C t => exact fun H' S' g' => h H' S' (g.trans g')
  | no => exact h
/-- to be shared -/
theorem RepV.share {H0 H S : Hp} (sub : Sub S H) (hs : Sub H0 H) {v : V} {sv : Sv} {d : Dv} (r : RepV G H0 H S v sv) (e : sv.share = some d) :
    ∃ S', Sub S S' ∧ Sub S' H ∧ (∀ a o, S' a = some o → S a = some o ∨ (H0 a = none ∧ Pl o)) ∧ RepS G S' v d := by
  cases sv with
  | sh d' =>
    cases e
    exact ⟨S, .refl S, sub, fun _ _ q => .inl q, r⟩
  | l1 ds =>
    cases e
    obtain ⟨a, xs, rfl, h, z, q, n, f⟩ := r
    refine ⟨upd S a (.lst xs), .new n, fun b o k => ?_, fun b o k => ?_, ?_⟩
    · by_cases hb : b = a
      · subst hb; rw [upd_same] at k; rw [← k]; exact h
      · rw [upd_ne hb] at k; exact sub _ _ k
    · by_cases hb : b = a
      · subst hb; rw [upd_same] at k; cases k; exact .inr ⟨f, fun _ _ h => by cases h⟩
      · rw [upd_ne hb] at k; exact .inl k
    · exact .lst (.inl (.inl upd_same)) z (q.mono (.new n))
  | d1 kvs =>
    cases e
    obtain ⟨a, kv, rfl, h, q, n, f⟩ := r
    refine ⟨upd S a (.dK kv), .new n, fun b o k => ?_, fun b o k => ?_, ?_⟩
    · by_cases hb : b = a
      · subst hb; rw [upd_same] at k; rw [← k]; exact h
      · rw [upd_ne hb] at k; exact sub _ _ k
    · by_cases hb : b = a
      · subst hb; rw [upd_same] at k; cases k; exact .inr ⟨f, fun _ _ h => by cases h⟩
      · rw [upd_ne hb] at k; exact .inl k
    · exact .dct upd_same (q.mono (.new n))
  | bw d' => cases e
  | _ => exact r.elim
theorem Out.ok0 {W : WX} {σ : L2.St} {H S : Hp} {sv : Sv} {Q : VK} (sub : Sub S H) (h : Out G W σ H S (.ok sv) Q) {v : V} (r : RepV G H H S v sv) : Q v H := h v H S (.refl sub) r

theorem RepL.rep {S : Hp} {vs : List V} {ds : List Dv} (h : RepL G S vs ds) : ∀ k : Nat, RepL G S (List.replicate k vs).flatten (List.replicate k ds).flatten
  | 0 => .nil
  | k + 1 => by
    rw [List.replicate_succ, List.replicate_succ, List.flatten_cons, List.flatten_cons]
    exact h.append (RepL.rep h k)
/-! ### the operators -/
theorem bin_ok {W : WX} {σ : L2.St} {op : Operator} {dx dy : Dv} {x y : V} {H S : Hp} {Q : VK} (sub : Sub S H) (hx : RepB G H S x dx) (hy : RepB G H S y dy) (h : Out G W σ H S (binop op dx dy) Q) : rBin G.K op x y H Q := by
  unfold binop at h
  split at h
  · cases hx; cases hy; exact .inl ⟨_, _, rfl, rfl, h.ok0 sub (.int _)⟩
  · split at h
    · rename_i hl
      cases hx; cases hy; exact .inr (.inl ⟨_, _, rfl, rfl, by rw [← lim]; exact hl, h.ok0 sub (.str _)⟩)
    · exact h.elim
  · split at h
    · rename_i hl
      cases hx with
      | tup a1 a2 a3 => cases hy with
        | tup b1 b2 b3 =>
          have e1 := a3.len
          have e2 := b3.len
          refine .inr (.inr (.inl ⟨_, _, _, _, rfl, rfl, sub.sqT a1, sub.sqT b1, by rw [← lim]; omega, fun e => ?_, fun _ e => ?_, fun _ _ p hp => ?_⟩))
          · subst e
            cases a3
            exact h.ok0 sub (.tup b1 b2 b3)
          · subst e
            cases b3
            rw [List.append_nil] at h
            exact h.ok0 sub (.tup a1 a2 a3)
          · refine h _ _ _ (Grow.add sub hp) ?_
            have n := sub.none hp
            exact .tup (.inl (.inl upd_same)) (by rw [List.length_append]; omega) ((a3.mono (.new n)).append (b3.mono (.new n)))
    · exact h.elim
  · split at h
    · rename_i hl
      obtain ⟨a, xs, rfl, a1, a2, a3⟩ := hx
      obtain ⟨b, ys, rfl, b1, b2, b3⟩ := hy
      have e1 := a3.len
      have e2 := b3.len
      refine .inr (.inr (.inr ⟨_, _, _, _, rfl, rfl, a1, b1, by rw [← lim]; omega, fun p hp => ?_⟩))
      exact h _ _ _ (Grow.own sub hp) ⟨p, _, rfl, upd_same, by rw [List.length_append]; omega, a3.append b3, sub.none hp, hp⟩
    · exact h.elim
  · cases hx; cases hy; exact ⟨_, _, rfl, rfl, h.ok0 sub (.int _)⟩
  · split at h
    · rename_i hc
      cases hx; cases hy; exact .inl ⟨_, _, rfl, rfl, hc, h.ok0 sub (.int _)⟩
    · exact h.elim
  · split at h
    · rename_i hc
      obtain ⟨a, xs, rfl, a1, a2, a3⟩ := hx
      have e1 := a3.len
      cases hy
      refine .inr ⟨_, _, _, rfl, rfl, a1, hc.1, hc.2.1, by rw [e1, ← lim]; exact hc.2.2, fun p hp => ?_⟩
      exact h _ _ _ (Grow.own sub hp) ⟨p, _, rfl, upd_same, by rw [PyProof.Rows.lm_len_rep_flat, e1, Nat.mul_comm]; exact hc.2.2, a3.rep _, sub.none hp, hp⟩
    · exact h.elim
  · split at h
    · rename_i hc
      rw [fdivD_eq] at h
      cases hx; cases hy; exact ⟨_, _, rfl, rfl, hc, h.ok0 sub (.int _)⟩
    · exact h.elim
  · split at h
    · rename_i hc
      rw [fmodD_eq] at h
      cases hx; cases hy; exact ⟨_, _, rfl, rfl, hc, h.ok0 sub (.int _)⟩
    · exact h.elim
  · split at h
    · rename_i hc
      cases hx; cases hy; exact ⟨_, _, rfl, rfl, hc, h.ok0 sub (.int _)⟩
    · exact h.elim
  · split at h
    · rename_i hc
      cases hx; cases hy; exact ⟨_, _, rfl, rfl, hc, h.ok0 sub (.int _)⟩
    · exact h.elim
  · split at h
    · rename_i hc
      cases hx; cases hy; exact ⟨_, _, rfl, rfl, hc, h.ok0 sub (.int _)⟩
    · exact h.elim
  · cases hx; cases hy; exact ⟨_, _, rfl, rfl, h.ok0 sub (.int _)⟩
  · exact h.elim
theorem toPs_any (a : Dv) : ∀ xs : List Dv, (toPs xs).any (fun z => PyData.eqv z (toP a)) = xs.any fun z => eqD z a
  | [] => rfl
  | x :: r => by
    show (PyData.eqv (toP x) (toP a) || (toPs r).any _) = _
    rw [toPs_any a r]
    rfl
theorem valV_rep {S : Hp} {i : Int} : ∀ {kvs : List (Dv × Dv)} {kv : List (Key × V)}, RepK G S kv kvs → (valV kv (.inl i)).isSome = kvs.any fun p => isKey i p.1
  | [], _, r => by cases r; rfl
  | (k, d) :: kvs, _, r => by
    cases r with
    | @cons j v _ kv _ a b =>
      rw [List.any_cons, ← valV_rep (i := i) b]
      show _ = (decide (j = i) || _)
      by_cases h : j = i
      · rw [valV_pos (by show (Sum.inl j : Key) = .inl i; rw [h]), decide_eq_true h]; rfl
      · rw [valV_neg (by intro e; injection e with e; exact h e), decide_eq_false h]; rfl
/-- what a truth asks of the walk -/
def OutB (W : WX) (σ : L2.St) (H : Hp) (r : Rs Bool) (Q : VK) : Prop := match r with
  | .ok b => Q (.bl b) H
  | _ => False
theorem cmp_ok {W : WX} {σ : L2.St} {op : CmpOp} {dx dy : Dv} {x y : V} {H S : Hp} {Q : VK} (sub : Sub S H) (hx : RepB G H S x dx) (hy : RepB G H S y dy) (h : OutB W σ H (cmpop op dx dy) Q) : rCmp G.K op x y H Q := by
  have ok : ∀ {a b : Dv}, (okD a && okD b) = true → okD a = true ∧ okD b = true := fun e => Bool.and_eq_true_iff.mp e
  have cl : ∀ {a : Dv}, okD a = true → (toP a).canLay0 = true := fun e => SeqAt.canLay_of_shaped e
  unfold cmpop at h
  split at h <;> try (first
    | (split at h
       · rename_i hc
         obtain ⟨k1, k2⟩ := ok hc
         first
           | exact ⟨_, _, hx.dp sub (cl k1), hy.dp sub (cl k2), k1, k2, h⟩
           | exact .inl ⟨_, _, hx.dp sub (cl k1), hy.dp sub (cl k2), k1, k2, by rw [toPs_any]; exact h⟩
           | exact .inr (.inl ⟨_, _, hx.dp sub (cl k1), hy.dp sub (cl k2), k1, k2, by rw [toPs_any]; exact h⟩)
       · exact h.elim)
    | (cases hx; cases hy; exact ⟨_, _, rfl, rfl, h⟩)
    | (cases hx; obtain ⟨a, kv, rfl, ha, q⟩ := hy; exact .inr (.inr ⟨_, a, kv, rfl, rfl, ha, by rw [valV_rep q]; exact h⟩))
    | (cases hx; cases hy; exact ⟨rfl, h⟩)
    | (obtain ⟨_, _, rfl, _⟩ := hx; cases hy; exact ⟨rfl, h⟩)
    | (obtain ⟨_, _, _, rfl, _⟩ := hx; cases hy; exact ⟨rfl, h⟩)
    | exact h.elim)
end Dg

/-! Items, slices, the built-in functions. -/
namespace Dg
open PySem PySem.Spec L2
variable {G : Gx}
theorem atI_rep {S : Hp} {ds : List Dv} {vs : List V} (r : RepL G S vs ds) {i : Int} {d : Dv} (h : atI ds i = some d) : ∃ v, atI vs i = some v ∧ RepS G S v d := by
  unfold atI at h ⊢
  rw [r.len]
  cases e : ixN ds.length i with
  | none => rw [e] at h; cases h
  | some j =>
    rw [e] at h
    exact r.get h
theorem ofO_ok {α : Type} {o : Option α} {a : α} (h : ofO o = .ok a) : o = some a := by
  cases o with
  | none => cases h
  | some b => cases h; rfl
theorem ix_ok {dx dy d : Dv} {x y : V} {H S : Hp} {Q : VK} (sub : Sub S H) (hx : RepB G H S x dx) (hy : RepB G H S y dy) (h : index dx dy = .ok d) (q : ∀ v, RepS G S v d → Q v H) : rIx G.K x y H Q := by
  unfold index at h
  split at h
  · obtain ⟨a, xs, rfl, a1, a2, a3⟩ := hx
    cases hy
    obtain ⟨v, e1, e2⟩ := atI_rep a3 (ofO_ok h)
    exact .inl ⟨_, _, _, _, rfl, rfl, a1, e1, q v e2⟩
  · cases hx with
    | tup a1 a2 a3 =>
      cases hy
      obtain ⟨v, e1, e2⟩ := atI_rep a3 (ofO_ok h)
      exact .inr (.inl ⟨_, _, _, _, rfl, rfl, sub.sqT a1, e1, q v e2⟩)
  · cases hx
    cases hy
    split at h
    · rename_i c hc
      split at h
      · rename_i hl
        cases h
        exact .inr (.inr ⟨_, _, _, rfl, rfl, by rw [← lim]; exact hl, hc, q _ (.str _)⟩)
      · cases h
    · cases h
  · cases h
theorem cutL_rep {S : Hp} {ds : List Dv} {vs : List V} (r : RepL G S vs ds) (lo hi : Option Int) : RepL G S (cutV vs lo hi) (cutL ds lo hi) := by
  unfold cutV cutL
  rw [r.len]
  exact (r.drop _).take _
def rSlX (K : PySem.W.Frag) : V → Option Int → Option Int → Hp → VK → Prop := fun x lo hi H Q => rSlL K x lo hi H Q ∨ rSlA K x lo hi H Q
theorem sl_X {X : Cx} : SlR X (rSlX X.K) := sl_list.or sl_tupA
theorem sl_ok {W : WX} {σ : L2.St} {dx : Dv} {lo hi : Option Int} {x : V} {H S : Hp} {Q : VK} (sub : Sub S H) (hx : RepB G H S x dx) (h : Out G W σ H S (slice dx lo hi) Q) : rSlX G.K x lo hi H Q := by
  unfold slice at h
  split at h
  · obtain ⟨a, xs, rfl, a1, a2, a3⟩ := hx
    refine .inl ⟨a, xs, rfl, a1, fun p hp => ?_⟩
    exact h _ _ _ (Grow.own sub hp) ⟨p, _, rfl, upd_same, Nat.le_trans (cutV_length _ _ _) a2, cutL_rep a3 _ _, sub.none hp, hp⟩
  · cases hx with
    | tup a1 a2 a3 =>
      refine .inr ⟨_, _, rfl, sub.sqT a1, fun e => ?_, fun _ p hp => ?_⟩
      · refine h.ok0 sub ?_
        have r := cutL_rep a3 lo hi
        unfold cutV at r
        rw [e.1, e.2, Nat.sub_zero, List.drop_zero, List.take_length] at r
        exact .tup a1 a2 r
      · have n := sub.none hp
        exact h _ _ _ (Grow.add sub hp) (.tup (.inl (.inl upd_same)) (Nat.le_trans (cutV_length _ _ _) a2) ((cutL_rep a3 _ _).mono (.new n)))
  · exact h.elim

/-! ### sorted -/
section
open PySem.W PySem.Calls PyProof.Rows
abbrev colH (h : Heap) (vs : List Value) : Heap := (h.push (seqObj "list" #[] 0)).update h.objs.size (Obj.mapSeq (· ++ vs.toArray))
theorem col_tup {prog : Program} {w : World} {A : Around} {E : Value → Shared → Prop} {s : Shared} {vs : List Value} {a : Addr} {o : Obj} {n : Nat} {Q : List Value → Shared → Prop} (ho : s.heap.get? a = some o) (hc : o.cls = .type "tuple") (hd : o.data = .seq vs.toArray n)
    (h : Q vs { s with heap := colH s.heap vs }) (hz : vs.length ≤ sizeLine) : wpAny (model prog w) A (collect (.ref a)) Q E s := by
  have hS : (s.heap.push (seqObj "list" #[] 0)).get? s.heap.objs.size = some (seqObj "list" #[] 0) := Heap.get?_push_size _ rfl
  have hS2 := Heap.get?_update_self (Obj.mapSeq (· ++ vs.toArray)) hS rfl
  have e0 : ((#[] : Array Value) ++ vs.toArray).toList = vs := by simp
  unfold collect
  refine wpAny_bind (wpAny_runValue (codeAny_builtin F.entry_proto_collect (?_ : wpAny _ _ (newList [] >>= fun l => again (.builtin "list.__iadd__" ⟨[l, .ref a], []⟩)) _ _ s)))
  refine wpAny_bind (wpAny_newObj_type (wpAny_pure ⟨plainId_quiet F.plain_list_iadd _, codeAny_builtin F.entry_list_iadd (?_ : wpAny _ _ (Builtin.List.listExtendWith (.ref s.heap.objs.size) (.ref a) (.ref s.heap.objs.size)) _ _ _)⟩))
  have fin : wpAny (model prog w) A (match Value.ref s.heap.objs.size with
      | Value.ref b => do
        match (← load b).data with
          | Data.seq xs _ => pure xs.toList
          | _ => unsupported "internal:collect"
      | _ => unsupported "internal:collect") Q E { s with heap := colH s.heap vs } := by
    refine wpAny_bind (wpAny_load hS2 (wpAny_pure (?_ : Q ((#[] : Array Value) ++ vs.toArray).toList _)))
    rw [e0]
    exact h
  refine wpAny_mono (wpAny_extend_seq (hsz := by simpa using hz) (R := fun r s' => r = .ok (.ret (.ref s.heap.objs.size)) ∧ s' = { s with heap := colH s.heap vs }) (s := { s with heap := s.heap.push (seqObj "list" #[] 0) }) _ a _ 0 (.inr rfl) hS (Heap.get?_push_of_some _ ho) hc hd ⟨rfl, rfl⟩) (fun f s' q => ?_) fun e s' q => absurd q.1 (by simp)
  cases f with
  | done f => obtain ⟨e, rfl⟩ := q; cases e; exact fin
  | again c' => exact ⟨q.1, codeAny_mono q.2 fun r s2 hr => by obtain ⟨rfl, rfl⟩ := hr; exact fin⟩
/-- sorted of a tuple: a new list -/
theorem sorted_tupD {prog : Program} {w : World} {A : Around} {E : Value → Shared → Prop} {s : Shared} {β : Type} {vs : List Value} {bs : List β} {enc : β → PyData} {R : Value → β → Prop}
    {a : Addr} {o : Obj} {n : Nat} {Q : Value → Shared → Prop} (ho : s.heap.get? a = some o) (hc : o.cls = .type "tuple") (hd : o.data = .seq vs.toArray n) (e : EachIs R vs bs) (er : EachIs (fun v b => ∃ as, Reads s.heap v (enc b) as) vs bs)
    (hal : AllAlike (bs.map enc)) (hk : Sortable (bs.map enc)) (hL : bs.length ≤ sizeLine) (hu : ∀ b, b ∈ bs → A.units + 2 + (enc b).depth < cLine)
    (h : ∀ out, out.length = bs.length → EachIs R out (bs.mergeSort (dataLe false enc)) → Q (.ref (s.heap.objs.size + 1)) { s with heap := sortedAll s.heap vs (List.toArray out) }) :
    wpAny (model prog w) A (call (.builtin "sorted") [.ref a]) Q E s := by
  have hL' : vs.length ≤ sizeLine := by rw [e.length]; exact hL
  refine call_function_entry_kw (kw := []) kind_sorted plain_sorted entry_sorted (args_sorted1 _) ?_
  unfold Builtin.«sorted»
  have hsz : (colH s.heap vs).objs.size = s.heap.objs.size + 1 := by rw [Heap.size_update, size_push']
  refine wpAny_bind (m := checkCount "sorted" 1 1 _) (wpAny_pure (wpAny_bind (col_tup ho hc hd (wpAny_bind (wpAny_newList (items := vs) (?_ : wpAny _ _ _ _ _ { s with heap := copyHeap s.heap vs }) hL')) hL')))
  have er' : EachIs (fun v b => ∃ as, Reads (sortingHeap (copyHeap s.heap vs) (s.heap.objs.size + 1) vs) v (enc b) as) vs bs := er.mono fun _ _ ⟨as, r⟩ => ⟨as, Reads.keeps (fun _ _ q => sorting_copy_old q) r⟩
  have S : SortsAt prog w A.in1.in1 { s with heap := sortingHeap (copyHeap s.heap vs) (s.heap.objs.size + 1) vs } _ vs :=
    SortsAt.data (s := { s with heap := sortingHeap (copyHeap s.heap vs) (s.heap.objs.size + 1) vs }) (each_map (R := fun v d => ∃ as, Reads (sortingHeap (copyHeap s.heap vs) (s.heap.objs.size + 1) vs) v d as) enc er') hal hk (bound_map hu)
  rw [hsz]
  refine wpAny_bind (wpAny_holding (wpAny_call_entry_kw slot_list_sort ⟨_, copyHeap_at s.heap vs, rfl⟩ entry_list_sort ?body (args_list_sort _)))
  case body =>
    refine wpAny_mono (list_sort_vals (s := { s with heap := copyHeap s.heap vs }) (P := fun f s' => f = .done (.ret .none) ∧ Q (.ref (s.heap.objs.size + 1)) s') (copyHeap_at s.heap vs) S hL' ⟨rfl, h _ (by rw [sortVals_length false rfl]; exact e.length) (sortVals_data false e er' hal)⟩) (fun f s' hf => ?_) fun _ _ z => z
    obtain ⟨rfl, hq⟩ := hf
    exact ⟨_, rfl, wpAny_pure ⟨_, rfl, hq⟩⟩
end
open PySem.W in
theorem each_rel {R : Value → V × Dv → Prop} : ∀ {bs : List (V × Dv)} {its : List Value}, Vals (bs.map (·.1)) its → (∀ b ∈ bs, ∀ u, RelV b.1 u → R u b) → EachIs R its bs
  | [], _, r, _ => by cases r; exact .nil
  | b :: bs, _, r, h => by
    cases r with
    | cons r1 r2 => exact .cons (h b List.mem_cons_self _ r1) (each_rel r2 fun c hc => h c (List.mem_cons_of_mem _ hc))
open PySem.W in
theorem vals_each : ∀ {bs : List (V × Dv)} {its : List Value}, EachIs (fun u (b : V × Dv) => RelV b.1 u) its bs → Vals (bs.map (·.1)) its
  | [], _, .nil => .nil
  | b :: bs, _, .cons h r => .cons h (vals_each r)
def rSortedD (K : PySem.W.Frag) : List V → Hp → VK → Prop := fun vs H Q => ∃ (a : Addr) (bs : List (V × Dv)), vs = [V.ref a] ∧ (SqL K H a (bs.map (·.1)) ∨ SqT K H a (bs.map (·.1))) ∧ (∀ b ∈ bs, Dp K H b.1 (toP b.2)) ∧ sortOk (bs.map (·.2)) = true ∧
  ∀ p, H p = none → Q (.ref p) (upd H p (.lst ((bs.mergeSort fun a b => leD a.2 b.2).map (·.1))))
open PySem.W in
theorem cr_sortedD {X : Cx} (hu : X.A.units + 70 < cLine) : CallR X (.builtin "sorted") (rSortedD X.K) := by
  intro pins s σ H vs us Q I r h
  obtain ⟨a, bs, rfl, hs, hd, hk, q⟩ := h
  rw [Vals.ref1 r]
  obtain ⟨its, rv, hz, hl⟩ : ∃ its, Vals (bs.map (·.1)) its ∧ (bs.map (·.1)).length ≤ sizeLine ∧ (s.heap.IsList a its.toArray ∨ s.heap.IsTuple a its.toArray) := by
    rcases hs with hs | hs
    · obtain ⟨its, rv, hl, hz⟩ := I.list hs
      exact ⟨its, rv, hz, .inl hl.isList⟩
    · obtain ⟨its, rv, hl, hz⟩ := I.tuple hs
      exact ⟨its, rv, hz, .inr hl⟩
  unfold sortOk at hk
  simp only [Bool.and_eq_true, List.all_eq_true, List.mem_map, Bool.or_eq_true] at hk
  obtain ⟨⟨k1, k2⟩, k3⟩ := hk
  have e : EachIs (fun u (b : V × Dv) => RelV b.1 u) its bs := each_rel rv fun b _ u hu => hu
  have er : EachIs (fun v (b : V × Dv) => ∃ as, Reads s.heap v (toP b.2) as) its bs := each_rel rv fun b hb u hu => Dp.reads I _ _ _ (hd b hb) hu
  have hal : AllAlike (bs.map fun b => toP b.2) := fun d hd d' hd' => by
    obtain ⟨b, hb, rfl⟩ := List.mem_map.mp hd
    obtain ⟨b', hb', rfl⟩ := List.mem_map.mp hd'
    exact k2 _ ⟨b, hb, rfl⟩ _ ⟨b', hb', rfl⟩
  have hso : Sortable (bs.map fun b => toP b.2) := by
    rcases k3 with k | k
    · refine .inl fun d hd => ?_
      obtain ⟨b, hb, rfl⟩ := List.mem_map.mp hd
      have z := k _ ⟨b, hb, rfl⟩
      split at z
      · rename_i x r e'
        rw [e']
        exact ⟨toP x, toPs r, rfl⟩
      · cases z
    · refine .inr fun d hd => ?_
      obtain ⟨b, hb, rfl⟩ := List.mem_map.mp hd
      have z := k _ ⟨b, hb, rfl⟩
      cases e' : b.2 with
      | tup _ => rw [e'] at z; cases z
      | non => rw [e'] at z; cases z
      | _ => exact ⟨(fun z => nomatch z), (fun xs z => nomatch z)⟩
  have hu2 : ∀ b, b ∈ bs → X.A.units + 2 + (toP b.2).depth < cLine := fun b hb => by
    have := SeqAt.depth_of_shaped (k1 _ ⟨b, hb, rfl⟩)
    omega
  have hz2 : bs.length ≤ sizeLine := by rw [List.length_map] at hz; exact hz
  have fin : ∀ out : List Value, out.length = bs.length → EachIs (fun u (b : V × Dv) => RelV b.1 u) out (bs.mergeSort (dataLe false fun b : V × Dv => toP b.2)) → EP X pins σ Q (.ref (s.heap.objs.size + 1)) { s with heap := PyProof.Rows.sortedAll s.heap its out.toArray } := fun out ho eo => by
    have hle : dataLe false (fun b : V × Dv => toP b.2) = fun a b => leD a.2 b.2 := by rw [dataLe_eq] <;> rfl
    rw [hle] at eo
    have rv2 := vals_each eo
    obtain ⟨ep, he'⟩ := PyProof.Rows.sortedAll_at s.heap its out.toArray
    have hlen : ((bs.mergeSort fun a b => leD a.2 b.2).map (·.1)).length ≤ sizeLine := by
      rw [List.length_map, List.length_mergeSort]
      exact hz2
    exact ⟨.ref _, upd H (s.heap.objs.size + 1) (.lst ((bs.mergeSort fun a b => leD a.2 b.2).map (·.1))), I.laid (t' := s.toks) (fun _ _ => PyProof.Rows.sortedAll_old) (Nat.le_succ _) ⟨hlen, out, ep, rv2, he'⟩, rfl, q _ (I.hok.fresh (Nat.le_succ _))⟩
  rcases hl with hl | ⟨o, ho, hc, n, hd2⟩
  · exact PySem.W.sorted_data (enc := fun b : V × Dv => toP b.2) hl e er hal hso hz2 hu2 fin
  · exact sorted_tupD (enc := fun b : V × Dv => toP b.2) ho hc hd2 e er hal hso hz2 hu2 fin
theorem zip_of_rep {S : Hp} : ∀ {ds : List Dv} {vs : List V}, RepL G S vs ds → ∃ bs : List (V × Dv), bs.map (·.1) = vs ∧ bs.map (·.2) = ds ∧ ∀ b ∈ bs, RepS G S b.1 b.2
  | [], _, .nil => ⟨[], rfl, rfl, fun _ h => by cases h⟩
  | d :: ds, _, .cons (v := v) a b => by
    obtain ⟨bs, e1, e2, h⟩ := zip_of_rep b
    refine ⟨(v, d) :: bs, by rw [List.map_cons, e1], by rw [List.map_cons, e2], fun c hc => ?_⟩
    rcases List.mem_cons.mp hc with rfl | hc
    · exact a
    · exact h c hc
theorem rep_of_zip {S : Hp} : ∀ {bs : List (V × Dv)}, (∀ b ∈ bs, RepS G S b.1 b.2) → RepL G S (bs.map (·.1)) (bs.map (·.2))
  | [], _ => .nil
  | b :: bs, h => .cons (h b List.mem_cons_self) (rep_of_zip fun c hc => h c (List.mem_cons_of_mem _ hc))

/-! ### the built-in functions -/
/-- a built-in function, a built-in class -/
def biV : Bi → Value
  | .len => .builtin "len"
  | .abs => .builtin "abs"
  | .min2 => .builtin "min"
  | .max2 => .builtin "max"
  | .int => .type "int"
  | .list => .type "list"
  | .tuple => .type "tuple"
  | .sorted => .builtin "sorted"
  | .sum => .builtin "sum"
  | .min1 => .builtin "min"
  | .max1 => .builtin "max"
  | .all => .builtin "all"
  | .any => .builtin "any"
abbrev RCl := List V → Hp → VK → Prop
def rLen (K : PySem.W.Frag) : RCl := fun xs H Q => (∃ p ys, xs = [.ref p] ∧ (SqL K H p ys ∨ SqT K H p ys) ∧ Q (.int ys.length) H) ∨ (∃ z, xs = [.str z] ∧ z.length ≤ sizeLine ∧ Q (.int z.length) H)
def rBi (K : PySem.W.Frag) : Bi → RCl
  | .len => rLen K
  | .abs => fun xs H Q => ∃ i, xs = [.int i] ∧ Q (.int (if i < 0 then -i else i)) H
  | .min2 => fun xs H Q => ∃ i j, xs = [.int i, .int j] ∧ Q (.int (if j < i then j else i)) H
  | .max2 => fun xs H Q => ∃ i j, xs = [.int i, .int j] ∧ Q (.int (if j > i then j else i)) H
  | .int => fun xs H Q => (∃ i, xs = [.int i] ∧ Q (.int i) H) ∨ ∃ k, xs = [.bl k] ∧ Q (.int (if k then 1 else 0)) H
  | .list => fun xs H Q => ∃ p ys, xs = [.ref p] ∧ (SqL K H p ys ∨ SqT K H p ys) ∧ ∀ l, H l = none → Q (.ref l) (upd H l (.lst ys))
  | .tuple => fun xs H Q => ∃ p ys, xs = [.ref p] ∧ ((SqL K H p ys ∧ ∀ l, H l = none → Q (.ref l) (upd H l (.tup ys))) ∨ (SqT K H p ys ∧ Q (.ref p) H))
  | .sorted => rSortedD K
  | .sum => rSum K
  | .min1 => rMin K
  | .max1 => rMax K
  | .all => rAll K
  | .any => rAny K
theorem cr_bi {X : Cx} (hc : X.calm = true) (hu : X.A.units + 70 < cLine) (id : Bi) : CallR X (biV id) (rBi X.K id) := by
  cases id with
  | len => exact call_len_seq.or call_len_str
  | abs => exact call_abs
  | min2 => exact call_min2 hc
  | max2 => exact call_max2 hc
  | int => exact call_int1
  | list => exact call_list_of
  | tuple => exact call_tuple_of
  | sorted => exact cr_sortedD hu
  | sum => exact cr_sum hc
  | min1 => exact cr_min hc
  | max1 => exact cr_max hc
  | all => exact cr_all hc
  | any => exact cr_any hc
/-- lent or shared arguments -/
def RepBs (H S : Hp) : List V → List Dv → Prop
  | [], [] => True
  | v :: vs, d :: ds => RepB G H S v d ∧ RepBs H S vs ds
  | _, _ => False
theorem max_fold : ∀ (r : List Int) (a : Int), (r.foldl (fun a b => if b > a then b else a) a) ∈ a :: r ∧ ∀ y ∈ a :: r, y ≤ r.foldl (fun a b => if b > a then b else a) a
  | [], a => ⟨by simp, by simp⟩
  | b :: r, a => by
    obtain ⟨h1, h2⟩ := max_fold r (if b > a then b else a)
    rw [List.foldl_cons]
    refine ⟨?_, fun y hy => ?_⟩
    · rcases List.mem_cons.mp h1 with e | e
      · rw [e]; split <;> simp
      · simp [e]
    · have h3 := h2 (if b > a then b else a) (by simp)
      simp only [List.mem_cons] at hy
      rcases hy with rfl | rfl | hy
      · exact Int.le_trans (by split <;> omega) h3
      · exact Int.le_trans (by split <;> omega) h3
      · exact h2 y (by simp [hy])
theorem min_fold : ∀ (r : List Int) (a : Int), (r.foldl (fun a b => if b < a then b else a) a) ∈ a :: r ∧ ∀ y ∈ a :: r, r.foldl (fun a b => if b < a then b else a) a ≤ y
  | [], a => ⟨by simp, by simp⟩
  | b :: r, a => by
    obtain ⟨h1, h2⟩ := min_fold r (if b < a then b else a)
    rw [List.foldl_cons]
    refine ⟨?_, fun y hy => ?_⟩
    · rcases List.mem_cons.mp h1 with e | e
      · rw [e]; split <;> simp
      · simp [e]
    · have h3 := h2 (if b < a then b else a) (by simp)
      simp only [List.mem_cons] at hy
      rcases hy with rfl | rfl | hy
      · exact Int.le_trans h3 (by split <;> omega)
      · exact Int.le_trans h3 (by split <;> omega)
      · exact h2 y (by simp [hy])
theorem repBs1 {H S : Hp} {vs : List V} {d : Dv} (h : RepBs (G := G) H S vs [d]) : ∃ v, vs = [v] ∧ RepB G H S v d := by
  match vs, h with
  | [v], h => exact ⟨v, rfl, h.1⟩
  | [], h => exact h.elim
  | _ :: _ :: _, h => exact h.2.elim
theorem repBs2 {H S : Hp} {vs : List V} {d e : Dv} (h : RepBs (G := G) H S vs [d, e]) : ∃ v w, vs = [v, w] ∧ RepB G H S v d ∧ RepB G H S w e := by
  match vs, h with
  | [v, w], h => exact ⟨v, w, rfl, h.1, h.2.1⟩
  | [], h => exact h.elim
  | [_], h => exact h.2.elim
  | _ :: _ :: _ :: _, h => exact h.2.2.elim
theorem bi_ok {W : WX} {σ : L2.St} {id : Bi} {ds : List Dv} {vs : List V} {H S : Hp} {Q : VK} (sub : Sub S H) (hx : RepBs (G := G) H S vs ds) (h : Out G W σ H S (bcall id ds) Q) : rBi G.K id vs H Q := by
  unfold bcall at h
  split at h
  · obtain ⟨v, rfl, a, xs, rfl, a1, a2, a3⟩ := repBs1 hx
    have e := a3.len
    refine .inl ⟨_, _, rfl, .inl a1, ?_⟩
    rw [e]
    exact h.ok0 sub (.int _)
  · obtain ⟨v, rfl, r⟩ := repBs1 hx
    cases r with
    | tup a1 a2 a3 =>
      have e := a3.len
      refine .inl ⟨_, _, rfl, .inr (sub.sqT a1), ?_⟩
      rw [e]
      exact h.ok0 sub (.int _)
  · obtain ⟨v, rfl, r⟩ := repBs1 hx
    cases r
    split at h
    · rename_i hl
      exact .inr ⟨_, rfl, by rw [← lim]; exact hl, h.ok0 sub (.int _)⟩
    · exact h.elim
  · obtain ⟨v, rfl, r⟩ := repBs1 hx
    cases r
    exact ⟨_, rfl, h.ok0 sub (.int _)⟩
  · obtain ⟨v, w, rfl, r, q⟩ := repBs2 hx
    cases r; cases q
    exact ⟨_, _, rfl, h.ok0 sub (.int _)⟩
  · obtain ⟨v, w, rfl, r, q⟩ := repBs2 hx
    cases r; cases q
    exact ⟨_, _, rfl, h.ok0 sub (.int _)⟩
  · obtain ⟨v, rfl, r⟩ := repBs1 hx
    cases r
    exact .inl ⟨_, rfl, h.ok0 sub (.int _)⟩
  · obtain ⟨v, rfl, r⟩ := repBs1 hx
    cases r
    exact .inr ⟨_, rfl, h.ok0 sub (.int _)⟩
  · obtain ⟨v, rfl, a, xs, rfl, a1, a2, a3⟩ := repBs1 hx
    exact ⟨_, _, rfl, .inl a1, fun p hp => h _ _ _ (Grow.own sub hp) ⟨p, _, rfl, upd_same, a2, a3, sub.none hp, hp⟩⟩
  · obtain ⟨v, rfl, r⟩ := repBs1 hx
    cases r with
    | tup a1 a2 a3 => exact ⟨_, _, rfl, .inr (sub.sqT a1), fun p hp => h _ _ _ (Grow.own sub hp) ⟨p, _, rfl, upd_same, a2, a3, sub.none hp, hp⟩⟩
  · obtain ⟨v, rfl, a, xs, rfl, a1, a2, a3⟩ := repBs1 hx
    exact ⟨_, _, rfl, .inl ⟨a1, fun p hp => h _ _ _ (Grow.add sub hp) (.tup (.inl (.inl upd_same)) a2 (a3.mono (.new (sub.none hp))))⟩⟩
  · obtain ⟨v, rfl, r⟩ := repBs1 hx
    cases r with
    | tup a1 a2 a3 => exact ⟨_, _, rfl, .inr ⟨sub.sqT a1, h.ok0 sub (.tup a1 a2 a3)⟩⟩
  · obtain ⟨v, rfl, a, xs, rfl, a1, a2, a3⟩ := repBs1 hx
    unfold sorted1 at h
    split at h
    · rename_i hk
      obtain ⟨bs, e1, e2, hr⟩ := zip_of_rep a3
      subst e1 e2
      have ho : ∀ b ∈ bs, okD b.2 = true := fun b hb => by
        unfold sortOk at hk
        simp only [Bool.and_eq_true, List.all_eq_true] at hk
        exact hk.1.1 _ (List.mem_map_of_mem hb)
      refine ⟨a, bs, rfl, .inl a1, fun b hb => Dp.mono sub (RepS.dp (hr b hb) (SeqAt.canLay_of_shaped (ho b hb))), hk, fun p hp => ?_⟩
      have e3 : ((bs.mergeSort fun a b => leD a.2 b.2).map (·.2)) = (bs.map (·.2)).mergeSort leD := List.map_mergeSort fun _ _ _ _ => rfl
      refine h _ _ _ (Grow.own sub hp) ⟨p, _, rfl, upd_same, by rw [List.length_map, List.length_mergeSort]; rw [List.length_map] at a2; exact a2, ?_, sub.none hp, hp⟩
      rw [← e3]
      exact rep_of_zip fun b hb => hr b ((List.mergeSort_perm _ _).mem_iff.mp hb)
    · exact h.elim
  · obtain ⟨v, rfl, r⟩ := repBs1 hx
    cases r with
    | tup a1 a2 a3 =>
        unfold sorted1 at h
        split at h
        · rename_i hk
          obtain ⟨bs, e1, e2, hr⟩ := zip_of_rep a3
          subst e1 e2
          have ho : ∀ b ∈ bs, okD b.2 = true := fun b hb => by
            unfold sortOk at hk
            simp only [Bool.and_eq_true, List.all_eq_true] at hk
            exact hk.1.1 _ (List.mem_map_of_mem hb)
          refine ⟨_, bs, rfl, .inr (sub.sqT a1), fun b hb => Dp.mono sub (RepS.dp (hr b hb) (SeqAt.canLay_of_shaped (ho b hb))), hk, fun p hp => ?_⟩
          have e3 : ((bs.mergeSort fun a b => leD a.2 b.2).map (·.2)) = (bs.map (·.2)).mergeSort leD := List.map_mergeSort fun _ _ _ _ => rfl
          refine h _ _ _ (Grow.own sub hp) ⟨p, _, rfl, upd_same, by rw [List.length_map, List.length_mergeSort]; rw [List.length_map] at a2; exact a2, ?_, sub.none hp, hp⟩
          rw [← e3]
          exact rep_of_zip fun b hb => hr b ((List.mergeSort_perm _ _).mem_iff.mp hb)
        · exact h.elim
  · obtain ⟨v, rfl, a, xs, rfl, a1, a2, a3⟩ := repBs1 hx
    split at h
    · rename_i is e
      have e2 := RepL.ints2 a3 e
      subst e2
      exact ⟨_, _, rfl, a1, h.ok0 sub (.int _)⟩
    · exact h.elim
  · obtain ⟨v, rfl, a, xs, rfl, a1, a2, a3⟩ := repBs1 hx
    split at h
    · rename_i i r e
      have e2 := RepL.ints2 a3 e
      subst e2
      refine ⟨_, _, rfl, a1, by simp, fun m h1 h2 => ?_⟩
      obtain ⟨k1, k2⟩ := max_fold r i
      have e3 : m = maxI (i :: r) := Int.le_antisymm (k2 m h1) (h2 _ k1)
      rw [e3]
      exact h.ok0 sub (.int _)
    · exact h.elim
  · obtain ⟨v, rfl, a, xs, rfl, a1, a2, a3⟩ := repBs1 hx
    split at h
    · rename_i i r e
      have e2 := RepL.ints2 a3 e
      subst e2
      refine ⟨_, _, rfl, a1, by simp, fun m h1 h2 => ?_⟩
      obtain ⟨k1, k2⟩ := min_fold r i
      have e3 : m = minI (i :: r) := Int.le_antisymm (h2 _ k1) (k2 m h1)
      rw [e3]
      exact h.ok0 sub (.int _)
    · exact h.elim
  · obtain ⟨v, rfl, a, xs, rfl, a1, a2, a3⟩ := repBs1 hx
    split at h
    · rename_i is e
      have e2 := RepL.bls2 a3 e
      subst e2
      exact ⟨_, _, rfl, a1, h.ok0 sub (.bl _)⟩
    · exact h.elim
  · obtain ⟨v, rfl, a, xs, rfl, a1, a2, a3⟩ := repBs1 hx
    split at h
    · rename_i is e
      have e2 := RepL.bls2 a3 e
      subst e2
      exact ⟨_, _, rfl, a1, h.ok0 sub (.bl _)⟩
    · exact h.elim
  · exact h.elim
end Dg

/-! The evaluator is sound: expressions. -/
namespace Dg
open PySem PySem.Spec L2

/-! ### weaker readings -/
theorem PE.imp {X : Cx} {e : Expr} {t t' : TE} (h : PE X e t') (i : ∀ σ H Q, t σ H Q → t' σ H Q) : PE X e t := ⟨fun pins s σ H Q I q => h.run pins s σ H Q I (i σ H Q q)⟩
theorem PT.imp {X : Cx} {e : Expr} {t t' : TT} (h : PT X e t') (i : ∀ σ H Q, t σ H Q → t' σ H Q) : PT X e t := ⟨fun pins s σ H Q I q => h.run pins s σ H Q I (i σ H Q q)⟩
theorem PW.imp {X : Cx} {e : Expr} {t t' : TT} (h : PW X e t') (i : ∀ σ H Q, t σ H Q → t' σ H Q) : PW X e t := ⟨fun w pins s σ H Q I q => h.run w pins s σ H Q I (i σ H Q q)⟩
theorem PA.imp {X : Cx} {e : List Expr} {t t' : TA} (h : PA X e t') (i : ∀ σ H Q, t σ H Q → t' σ H Q) : PA X e t := ⟨fun pos pins s σ H Q I q => h.run pos pins s σ H Q I (i σ H Q q)⟩
theorem PO.imp {X : Cx} {e : Option Expr} {t t' : TO} (h : PO X e t') (i : ∀ σ H Q, t σ H Q → t' σ H Q) : PO X e t := ⟨fun pins s σ H Q I q => h.run pins s σ H Q I (i σ H Q q)⟩
theorem PTs.imp {X : Cx} {e : List Expr} {t t' : TT} (h : PTs X e t') (i : ∀ σ H Q, t σ H Q → t' σ H Q) : PTs X e t := ⟨fun pins s σ H Q I q => h.run pins s σ H Q I (i σ H Q q)⟩
theorem PI.imp {X : Cx} {tg e : Expr} {t t' : TI} (h : PI X tg e t') (i : ∀ σ H Q, t σ H Q → t' σ H Q) : PI X tg e t := ⟨fun pins s σ H Q I q => h.run pins s σ H Q I (i σ H Q q)⟩
theorem PI.or {X : Cx} {tg e : Expr} {t t' : TI} (h : PI X tg e t) (h' : PI X tg e t') : PI X tg e (fun σ H R => t σ H R ∨ t' σ H R) := ⟨fun pins s σ H R I q => by
  rcases q with q | q
  · exact h.run pins s σ H R I q
  · exact h'.run pins s σ H R I q⟩
theorem PW.of {X : Cx} {op : BoolOp} {es : List Expr} {pos : Pos} {t : TT} (h : PT X (.BoolOp op es pos) t) : PW X (.BoolOp op es pos) t := ⟨fun wh pins s σ H Q I q => by
  have r := h.run pins s σ H Q I q
  exact r⟩

/-! ### calls that may raise -/
section
variable {X : Cx} {CX : CXT} {k : Nat} {f C : Addr} {fd : FuncData} {ps : List Str} {sp : Sp} {E : L2.St → XK} {x m : Str} {p pos apos : Pos} {e o : Expr} {es : List Expr} {ta : TE} {t : TA}
theorem pe_call0S (F : FnOk X.prog X.w X.K X.mg X.base CX k f fd ps sp) (hr : Room k X.A) (hg : Gl X x) (hm : X.mg x = some (.ref f)) (hk : PySem.W.keepIn X.K (.ref f) = true) (hb : Binds X.K fd ps []) (hx : ∀ σ, PassesAt CX X σ (E σ))
    (hdb : (x == ("__debug__" : Str)) = false) : PE X (.Call (.Name x p) [] [] pos) (tCallS sp E tNil) := by
  refine ⟨fun pins s σ H Q I h => ?_⟩
  refine wpAny_Call_Name_kw (ld_glob I hg hm ?_ hdb)
  exact PySem.W.callWith_K0 I.kIn hk (run_fnS (us := []) F hr hb (hx σ) I .nil h)
def tMethS (C : Addr) (m : Str) (sp : Sp) (E : L2.St → XK) (ta : TE) (t : TA) : TE := fun σ H Q => ta σ H fun x H1 => ∃ a dx fs, x = .ref a ∧ H1 a = some (.ins C dx fs) ∧ fs.lookup m = none ∧ t σ H1 fun vs H2 => sp (x :: vs) H2 Q (E σ)
theorem pe_methS {pl : Sem Bool} (he : PE X o ta) (c : Cls X.K C) (hm : Meth X.K C m f) (F : FnOk X.prog X.w X.K X.mg X.base CX k f fd ps sp) (hr : Room k X.A) (hb : Binds X.K fd ps []) (hx : ∀ σ, PassesAt CX X σ (E σ)) (ha : PA X (e :: es) t)
    (hst : starEach (e :: es) X.env = (false, eval e X.env) :: starEach es X.env) (hpl : (backTo pos (starEach es X.env)).any (·.1) = false)
    (ht : eval (.Call (.Attribute o m apos) (e :: es) [] pos) X.env = (do
      let ov ← eval o X.env
      standAt apos.atName
      let (f, first) ← holding [ov] (getMethod ov m pl)
      callWith pos f first (backTo pos (starEach (e :: es) X.env)) (backToKw pos (keywordEach [] X.env)))) :
    PE X (.Call (.Attribute o m apos) (e :: es) [] pos) (tMethS C m sp E ta t) := by
  refine ⟨fun pins s σ H Q I h => ?_⟩
  refine PySem.W.methodCall_KW (pl := pl) (thn (he.run pins s σ H _ I h) fun u s1 ⟨x, H1, I1, rx, a, dx, fs, ex, ea, l, q⟩ => ?_) ht
  subst ex
  obtain rfl : u = Value.ref a := rx
  refine getmeth_ok I1 ea c hm l ?_
  refine PySem.W.callWith_K (first := [.ref a]) (h₀ := X.base) I.ok.mod.kin hm.kp (thn (ha.run pos pins s1 σ H1 _ I1 q) fun us s2 ⟨vs, H2, I2, r, q2⟩ => ⟨I2.kIn, ?_⟩) hst hpl
  exact run_fnS (us := .ref a :: us) (vs := .ref a :: vs) F hr hb (hx σ) I2 (.cons rfl r) q2
theorem pe_meth0S {pl : Sem Bool} (he : PE X o ta) (c : Cls X.K C) (hm : Meth X.K C m f) (F : FnOk X.prog X.w X.K X.mg X.base CX k f fd ps sp) (hr : Room k X.A) (hb : Binds X.K fd ps []) (hx : ∀ σ, PassesAt CX X σ (E σ))
    (ht : eval (.Call (.Attribute o m apos) [] [] pos) X.env = (do
      let ov ← eval o X.env
      standAt apos.atName
      let (f, first) ← holding [ov] (getMethod ov m pl)
      callWith pos f first (backTo pos (starEach [] X.env)) (backToKw pos (keywordEach [] X.env)))) :
    PE X (.Call (.Attribute o m apos) [] [] pos) (tMethS C m sp E ta tNil) := by
  refine ⟨fun pins s σ H Q I h => ?_⟩
  refine PySem.W.methodCall_KW (pl := pl) (thn (he.run pins s σ H _ I h) fun u s1 ⟨x, H1, I1, rx, a, dx, fs, ex, ea, l, q⟩ => ?_) ht
  subst ex
  obtain rfl : u = Value.ref a := rx
  refine getmeth_ok I1 ea c hm l ?_
  exact PySem.W.callWith_K0 (first := [.ref a]) I1.kIn hm.kp (run_fnS (us := [.ref a]) (vs := [.ref a]) F hr hb (hx σ) I1 (.cons rfl .nil) q)
def tMakeS (C : Addr) (sp : Sp) (E : L2.St → XK) (t : TA) : TE := fun σ H Q => t σ H fun vs H1 => ∀ x dx, H1 x = none → H1 dx = none → dx ≠ x →
  sp (.ref x :: vs) (upd (upd H1 dx (.own x)) x (.ins C dx [])) (fun v H2 => v = .non ∧ Q (.ref x) H2) (E σ)
theorem run_makeS {pins : List (Addr × Obj)} {σ : L2.St} {H : Hp} {s : Shared} {Q : VK} {us : List Value} {vs : List V} (M : Mk X.K C f) (F : FnOk X.prog X.w X.K X.mg X.base CX k f fd ps sp) (hr : Room (k + 1) X.A) (hb : Binds X.K fd ps [])
    (hx : PassesAt CX X σ (E σ)) (I : L2.Inv X pins σ H s) (r : Vals vs us)
    (hxm : ∀ (H1 : Hp) (s1 : Shared) (e : Value) (s' : Shared), L2.Inv X pins σ H1 s1 → CX X.stack H1 s1 (E σ) e s' → X.xe e s')
    (h : ∀ x dx, H x = none → H dx = none → dx ≠ x → sp (.ref x :: vs) (upd (upd H dx (.own x)) x (.ins C dx [])) (fun v H2 => v = .non ∧ Q (.ref x) H2) (E σ)) :
    wpAny (model X.prog X.w) X.A (call (.ref C) us) (EP X pins σ Q) X.xe s := by
  have hq := h (s.heap.objs.size + 1) s.heap.objs.size (I.hok.fresh (Nat.le_succ _)) (I.hok.fresh (Nat.le_refl _)) (Nat.ne_of_lt (Nat.lt_succ_self _))
  have I2 := Inv.made (C := C) I
  have r2 : Vals (V.ref (s.heap.objs.size + 1) :: vs) (Value.ref (s.heap.objs.size + 1) :: us) := .cons rfl r
  have hl : (Value.ref (s.heap.objs.size + 1) :: us).length = ps.length := by
    have e := r2.length
    rw [F.len _ _ _ _ hq] at e
    exact e.symm
  have hbb := hb _ (Value.ref (s.heap.objs.size + 1) :: us) I2.kIn (by rw [List.append_nil]; exact hl)
  rw [List.append_nil] at hbb
  refine wpAny_call (make_map (f := f) I.kIn M.makes M.init (beq_iff_eq.mp M.fn) (codeAny_mono (F.run _ X.stack _ _ ⟨Value.ref (s.heap.objs.size + 1) :: us, []⟩ (Value.ref (s.heap.objs.size + 1) :: us) _ _ (E σ) (hr.make C us [])
    (I2.env0.make C us []) hbb r2 hq) fun r s' hq' => ?_))
  cases r with
  | error e => exact hxm _ _ e s' I2 hq'
  | ok fl =>
    cases fl with
    | ret u =>
      obtain ⟨v, H', I3, rv, ev, q3⟩ := I2.after hq'
      subst ev
      exact ⟨rv, ⟨V.ref (s.heap.objs.size + 1), H', I3, rfl, q3⟩⟩
    | next => exact False.elim hq'
    | brk => exact False.elim hq'
    | cont => exact False.elim hq'
theorem pe_makeS (M : Mk X.K C f) (F : FnOk X.prog X.w X.K X.mg X.base CX k f fd ps sp) (hr : Room (k + 1) X.A) (hg : Gl X x) (hm : X.mg x = some (.ref C)) (hb : Binds X.K fd ps []) (hx : ∀ σ, PassesAt CX X σ (E σ))
    (ha : PA X (e :: es) t) (hdb : (x == ("__debug__" : Str)) = false) (he : starEach (e :: es) X.env = (false, eval e X.env) :: starEach es X.env) (hpl : (backTo pos (starEach es X.env)).any (·.1) = false) :
    PE X (.Call (.Name x p) (e :: es) [] pos) (tMakeS C sp E t) := by
  refine ⟨fun pins s σ H Q I h => ?_⟩
  refine wpAny_Call_Name_kw (ld_glob I hg hm ?_ hdb)
  refine PySem.W.callWith_K (h₀ := X.base) I.ok.mod.kin M.kp (thn (ha.run pos pins s σ H _ I h) fun us s1 ⟨vs, H1, I1, r, q⟩ => ⟨I1.kIn, ?_⟩) he hpl
  exact run_makeS M F hr hb (hx σ) I1 r (fun H1 s1 e s' I1 c => hx σ pins H1 s1 e s' I1 c) q
theorem pe_make0S (M : Mk X.K C f) (F : FnOk X.prog X.w X.K X.mg X.base CX k f fd ps sp) (hr : Room (k + 1) X.A) (hg : Gl X x) (hm : X.mg x = some (.ref C)) (hb : Binds X.K fd ps []) (hx : ∀ σ, PassesAt CX X σ (E σ))
    (hdb : (x == ("__debug__" : Str)) = false) : PE X (.Call (.Name x p) [] [] pos) (tMakeS C sp E tNil) := by
  refine ⟨fun pins s σ H Q I h => ?_⟩
  refine wpAny_Call_Name_kw (ld_glob I hg hm ?_ hdb)
  exact PySem.W.callWith_K0 I.kIn M.kp (run_makeS (us := []) M F hr hb (hx σ) I .nil (fun H1 s1 e s' I1 c => hx σ pins H1 s1 e s' I1 c) h)
end

/-! ### the linked program -/
structure Lk where
  G : Gx
  P : Program
  w : World
  mg : Str → Option Value
  base : Heap
  pg : Pg
  gl : List (Str × Gk)
  mt : List (Str × (Nat × Nat))
  aF : Nat → Addr
  fdF : Nat → FuncData
  psF : Nat → List Str
variable (L : Lk)
/-- what a def promises, with n calls below it -/
def spF (n f : Nat) : Sp := fun vs H Q E => ∃ S ds, Sub S H ∧ RepL L.G S vs ds ∧ vs.length = (L.psF f).length ∧ match callI L.pg n f ds with
  | .ok sv => ∀ v H' S', Grow H S H' S' → RepV L.G H H' S' v sv → Q v H'
  | .ex C t => ∀ H' S', Grow H S H' S' → (match t with
    | none => E (.ref (L.G.cA C)) none H'
    | some i => ∀ dx, H' dx = some (.xd [("at", .int i)]) → E (.ref (L.G.cA C)) (some dx) H')
  | .no => False
/-- all but one object stand as they stood -/
structure GrowM (x : Addr) (H S H' S' : Hp) : Prop where
  h : ∀ a o, a ≠ x → H a = some o → H' a = some o
  s : Sub S S'
  sub : Sub S' H'
  new : ∀ a o, S' a = some o → S a = some o ∨ (H a = none ∧ Pl o)
/-- what __init__ promises -/
def spM (n C f : Nat) : Sp := fun vs H Q E => ∃ S x dx us ds, vs = .ref x :: us ∧ Sub S H ∧ S x = none ∧ H x = some (.ins (L.G.cA C) dx []) ∧ RepL L.G S us ds ∧ vs.length = (L.psF f).length ∧ match makeI L.pg n C ds with
  | .ok d => ∀ H' S' fs dx', d = .obj C fs → GrowM x H S H' S' → S' x = none → (∃ xs, H' x = some (.ins (L.G.cA C) dx' xs) ∧ RepF L.G S' xs fs) → Q .non H'
  | .ex D t => ∀ H' S', GrowM x H S H' S' → (match t with
    | none => E (.ref (L.G.cA D)) none H'
    | some i => ∀ dx, H' dx = some (.xd [("at", .int i)]) → E (.ref (L.G.cA D)) (some dx) H')
  | .no => False
/-- what a def promises that takes from the list that it is lent at place k -/
def spP (n f k : Nat) : Sp := fun vs H Q _ => ∃ S pre post a xs ds xd, vs = pre ++ .ref a :: post ∧ pre.length = k ∧ Sub S H ∧ S a = none ∧ H a = some (.lst xs) ∧ xs.length ≤ LIM ∧ RepL L.G S (pre ++ post) ds ∧ RepL L.G S xs xd ∧ vs.length = (L.psF f).length ∧ match callMI L.pg n f k ds xd with
  | .ok (d, yd) => ∀ v H' S' ys, GrowM a H S H' S' → S' a = none → H' a = some (.lst ys) → ys.length ≤ LIM → RepL L.G S' ys yd → RepS L.G S' v d → Q v H'
  | _ => False
/-- what a def promises that undoes lists -/
def spK (f : Nat) (D : Kx) : Sp := fun vs H Q _ => ∃ S H2 v d b, vs = [v] ∧ Sub S H2 ∧ JK S H2 H ∧ (b = true → H = H2) ∧ kRep L.G S d v ∧ okK (fun _ _ _ => false) b D (oneK d) = true ∧ vs.length = (L.psF f).length ∧ ∀ H', JK S H2 H' → Q .non H'
/-- the built-in names that are used -/
def bltNames : List Str := ["len", "abs", "min", "max", "int", "list", "tuple", "sorted", "sum", "all", "any", "range", "enumerate", "zip", "reversed", "set", "isinstance", "bool", "str", "ValueError"]
/-- an exception's class that may be raised -/
structure ExK (C : Nat) : Prop where
  own : PySem.W.excIn L.G.K (L.G.cA C) He.veBase "ValueError.__new__" = true
  kp : PySem.W.keepIn L.G.K (.ref (L.G.cA C)) = true
  sub : PySem.W.subIn L.G.K (.ref (L.G.cA C)) (.type "BaseException") = some true
  ty : PySem.W.typeIn L.G.K (.ref (L.G.cA C)) = some (.type "type")
/-- the defs as they stand, at one level of calls -/
structure CallsOk (lv : Nat) : Prop where
  fn : ∀ x f, lkS x L.gl = some (.fn f) → L.mg x = some (.ref (L.aF f)) ∧ PySem.W.keepIn L.G.K (.ref (L.aF f)) = true ∧ Binds L.G.K (L.fdF f) (L.psF f) [] ∧ (∀ ds, callI L.pg lv f ds ≠ .no → ds.length = (L.psF f).length) ∧ FnOk L.P L.w L.G.K L.mg L.base (L2.CX L.P L.w) (3 * lv) (L.aF f) (L.fdF f) (L.psF f) (spF L lv f)
  mfn : ∀ x f k, lkS x L.gl = some (.fn f) → (∀ ds xd r, callMI L.pg lv f k ds xd = .ok r → ds.length + 1 = (L.psF f).length ∧ k ≤ ds.length) ∧ FnOk L.P L.w L.G.K L.mg L.base (L2.CX L.P L.w) (3 * lv) (L.aF f) (L.fdF f) (L.psF f) (spP L lv f k)
  kfn : ∀ x f D, lkS x L.gl = some (.fn f) → L.pg.kfI lv f = some D → (L.psF f).length = 1 ∧ FnOk L.P L.w L.G.K L.mg L.base (L2.CX L.P L.w) (3 * lv) (L.aF f) (L.fdF f) (L.psF f) (spK L f D)
  nol : ∀ (a : Addr) (o : Obj) (its : Array Value) (n : Nat), L.G.K.lookup a = some o → o.cls = .type "list" → o.data = .seq its n → False
  cls : ∀ x C, lkS x L.gl = some (.cls C) → C ∈ L.G.cs ∧ ∃ f, L.mg x = some (.ref (L.G.cA C)) ∧ Mk L.G.K (L.G.cA C) (L.aF f) ∧ Binds L.G.K (L.fdF f) (L.psF f) [] ∧ (∀ ds, makeI L.pg lv C ds ≠ .no → ds.length + 1 = (L.psF f).length) ∧ FnOk L.P L.w L.G.K L.mg L.base (L2.CX L.P L.w) (3 * lv) (L.aF f) (L.fdF f) (L.psF f) (spM L lv C f)
  cst : ∀ x d, lkS x L.gl = some (.cst d) → ∃ v u, L.mg x = some u ∧ RelV v u ∧ ∀ S, RepS L.G S v d
  exc : ∀ x C, lkS x L.gl = some (.exc C) → L.mg x = some (.ref (L.G.cA C))
  rai : ∀ C b, L.pg.sub C C = some b → ExK L C
  meth : ∀ m C f, lkS m L.mt = some (C, f) → Cls L.G.K (L.G.cA C) ∧ Meth L.G.K (L.G.cA C) m (L.aF f) ∧ Binds L.G.K (L.fdF f) (L.psF f) [] ∧ m ∉ L.G.fl ∧ (∀ ds, callI L.pg lv f ds ≠ .no → ds.length = (L.psF f).length) ∧ FnOk L.P L.w L.G.K L.mg L.base (L2.CX L.P L.w) (3 * lv) (L.aF f) (L.fdF f) (L.psF f) (spF L lv f)
  fld : ∀ C ∈ L.G.cs, Cls L.G.K (L.G.cA C) ∧ ∀ f ∈ L.G.fl, NoAttr L.G.K (L.G.cA C) f
  isc : ∀ C ∈ L.G.cs, PySem.W.findIn L.G.K (.ref (L.G.cA C)) "__class__" = some (some (.builtin "object.__class__")) ∧ PySem.W.specialIn L.G.K (.builtin "object.__class__") "__get__" = some (some (.builtin "getset_descriptor.__get__")) ∧
    PySem.W.takesIn L.G.K (.builtin "object.__class__") = some true ∧ PySem.W.mroIn L.G.K (L.G.cA C) (.type "object") = some true ∧ PySem.W.kitOne L.G.K (.type "NoneType") (.ref (L.G.cA C)) = some false
  fnd : L.G.fl.Nodup
  sub : ∀ D C b, L.pg.sub D C = some b → ExcC L.G.K (L.G.cA D) ∧ PySem.W.kitOne L.G.K (.ref (L.G.cA D)) (.ref (L.G.cA C)) = some b ∧ PySem.W.kitOne L.G.K (.ref (L.G.cA D)) (.type "ValueError") = some true ∧ PySem.W.exmOne L.G.K (.ref (L.G.cA D)) (.ref (L.G.cA C)) = some b
  blt : ∀ x ∈ bltNames, lkS x L.gl = none → L.mg x = none
/-- a place in the program where expressions stand -/
structure XOk (lv : Nat) (se : SE) (X : Cx) : Prop where
  prog : X.prog = L.P
  w : X.w = L.w
  K : X.K = L.G.K
  mg : X.mg = L.mg
  base : X.base = L.base
  N : X.N = se.N
  sc : X.env.scope = se.sc
  nd : X.N.Nodup
  calm : X.calm = true
  room : Room (3 * lv + 2) X.A
  gl : se.gl = L.gl
  mt : se.mt = L.mt
  fl : se.fl = L.G.fl
/-! ### readings -/
def tE (lv : Nat) (m : Ex) (W : WX) : TE := fun σ H Q => ∃ F e S, Rel L.G F e σ H S ∧ Out L.G W σ H S (evalE (clI L.pg lv) m e) Q
def OutT (W : WX) (σ : L2.St) (H S : Hp) (r : Rs Sv) (Q : Bool → Hp → Prop) : Prop := match r with
  | .ok sv => ∃ b, sv.toD = .bl b ∧ ∀ H' S', Grow H S H' S' → Q b H'
  | .ex C t => ∀ H' S', Grow H S H' S' → ExW L.G W σ H' C t
  | .no => False
def tT (lv : Nat) (m : Ex) (W : WX) : TT := fun σ H Q => ∃ F e S, Rel L.G F e σ H S ∧ OutT L W σ H S (evalE (clI L.pg lv) m e) Q
def OutL (W : WX) (σ : L2.St) (H S : Hp) (r : Rs (List Dv)) (Q : List V → Hp → Prop) : Prop := match r with
  | .ok ds => ∀ vs H' S', Grow H S H' S' → RepL L.G S' vs ds → Q vs H'
  | .ex C t => ∀ H' S', Grow H S H' S' → ExW L.G W σ H' C t
  | .no => False
def tA (lv : Nat) (m : Exs) (W : WX) : TA := fun σ H Q => ∃ F e S, Rel L.G F e σ H S ∧ OutL L W σ H S (evalEs (clI L.pg lv) m e) Q
def OutLB (W : WX) (σ : L2.St) (H S : Hp) (r : Rs (List Dv)) (Q : List V → Hp → Prop) : Prop := match r with
  | .ok ds => ∀ vs H' S', Grow H S H' S' → RepBs (G := L.G) H' S' vs ds → Q vs H'
  | .ex C t => ∀ H' S', Grow H S H' S' → ExW L.G W σ H' C t
  | .no => False
def tAB (lv : Nat) (m : Exs) (W : WX) : TA := fun σ H Q => ∃ F e S, Rel L.G F e σ H S ∧ OutLB L W σ H S (evalBs (clI L.pg lv) m e) Q
def OutOp (W : WX) (σ : L2.St) (H S : Hp) (r : Rs (Option Int)) (Q : Option Int → Hp → Prop) : Prop := match r with
  | .ok o => ∀ H' S', Grow H S H' S' → Q o H'
  | .ex C t => ∀ H' S', Grow H S H' S' → ExW L.G W σ H' C t
  | .no => False
def tO (lv : Nat) (m : Ox) (W : WX) : TO := fun σ H Q => ∃ F e S, Rel L.G F e σ H S ∧ OutOp L W σ H S (evalO (clI L.pg lv) m e) Q
def OutC (W : WX) (σ : L2.St) (H S : Hp) (r : Rs Bool) (Q : Bool → Hp → Prop) : Prop := match r with
  | .ok b => ∀ H' S', Grow H S H' S' → Q b H'
  | .ex C t => ∀ H' S', Grow H S H' S' → ExW L.G W σ H' C t
  | .no => False
def tC1 (lv : Nat) (m : Ox) (W : WX) : TT := fun σ H Q => ∃ F e S, Rel L.G F e σ H S ∧ OutC L W σ H S (evalC (clI L.pg lv) m e) Q
/-- an iterator that goes through data -/
def Walks (J : It) (B S0 : Hp) (ds : List Dv) : Prop := ∀ H S i, Sub B H → Sub S0 S → Sub S H →
  (∀ d, ds[i]? = some d → J.go i H ∧ ∀ x H', J.yld i H x H' → ∃ S', Grow H S H' S' ∧ RepS L.G S' x d) ∧ (ds.length ≤ i → J.stop i H)
def OutI (b : Bool) (W : WX) (σ : L2.St) (H S : Hp) (r : Rs (List Dv)) (R : It → Hp → Prop) : Prop := match r with
  | .ok ds => ∀ J H' S', Grow H S H' S' → Walks L J (if b then S' else H') S' ds → ds.length ≤ LIM → R J H'
  | .ex C t => ∀ H' S', Grow H S H' S' → ExW L.G W σ H' C t
  | .no => False
def tI (lv : Nat) (b : Bool) (m : Src) (W : WX) : TI := fun σ H R => ∃ F e S, Rel L.G F e σ H S ∧ OutI L b W σ H S (evalS (clI L.pg lv) b m e) R
variable {L}

/-! ### one part, then the next -/
theorem RepV.share2 {G : Gx} {H S H' S' : Hp} (g : Grow H S H' S') {v : V} {sv : Sv} {d : Dv} (r : RepV G H H' S' v sv) (e : sv.share = some d) : ∃ S2, Grow H S H' S2 ∧ Sub S' S2 ∧ RepS G S2 v d := by
  obtain ⟨S2, a, b, c, q⟩ := r.share g.sub g.h e
  refine ⟨S2, ⟨g.h, g.s.trans a, b, fun x o h => ?_⟩, a, q⟩
  rcases c x o h with h | h
  · exact g.new x o h
  · exact .inr h
theorem Rs.bind_ok {α β : Type} {a : α} {f : α → Rs β} : (Rs.ok a).bind f = f a := rfl
theorem Rs.bind_ex {α β : Type} {C : Nat} {t : Option Int} {f : α → Rs β} : (Rs.ex C t : Rs α).bind f = .ex C t := rfl
theorem Rs.bind_no {α β : Type} {f : α → Rs β} : (Rs.no : Rs α).bind f = .no := rfl
/-- an expression, then what is made of it -/
theorem tE.bind {lv : Nat} {m : Ex} {W : WX} {σ : L2.St} {H S : Hp} {F : Fm} {e : Env} (R : Rel L.G F e σ H S) {Q : VK} {β : Type} {P : Rs β → Prop} {k : Sv → Rs β}
    (pex : ∀ C t, P (.ex C t) → ∀ H1 S1, Grow H S H1 S1 → ExW L.G W σ H1 C t) (pno : ¬ P .no) (h : P ((evalE (clI L.pg lv) m e).bind k))
    (hok : ∀ sv v H1 S1, Grow H S H1 S1 → Rel L.G F e σ H1 S1 → RepV L.G H H1 S1 v sv → P (k sv) → Q v H1) : tE L lv m W σ H Q := by
  refine ⟨F, e, S, R, ?_⟩
  cases q : evalE (clI L.pg lv) m e with
  | ok sv =>
    rw [q] at h
    exact fun v H1 S1 g r => hok sv v H1 S1 g (R.mono g) r h
  | ex C t =>
    rw [q] at h
    exact fun H1 S1 g => pex C t h H1 S1 g
  | no =>
    rw [q] at h
    exact pno h
theorem tA.bind {lv : Nat} {m : Exs} {W : WX} {σ : L2.St} {H S : Hp} {F : Fm} {e : Env} (R : Rel L.G F e σ H S) {Q : List V → Hp → Prop} {β : Type} {P : Rs β → Prop} {k : List Dv → Rs β}
    (pex : ∀ C t, P (.ex C t) → ∀ H1 S1, Grow H S H1 S1 → ExW L.G W σ H1 C t) (pno : ¬ P .no) (h : P ((evalEs (clI L.pg lv) m e).bind k))
    (hok : ∀ ds vs H1 S1, evalEs (clI L.pg lv) m e = .ok ds → Grow H S H1 S1 → Rel L.G F e σ H1 S1 → RepL L.G S1 vs ds → P (k ds) → Q vs H1) : tA L lv m W σ H Q := by
  refine ⟨F, e, S, R, ?_⟩
  cases q : evalEs (clI L.pg lv) m e with
  | ok sv =>
    rw [q] at h
    exact fun v H1 S1 g r => hok sv v H1 S1 q g (R.mono g) r h
  | ex C t =>
    rw [q] at h
    exact fun H1 S1 g => pex C t h H1 S1 g
  | no =>
    rw [q] at h
    exact pno h
theorem tAB.bind {lv : Nat} {m : Exs} {W : WX} {σ : L2.St} {H S : Hp} {F : Fm} {e : Env} (R : Rel L.G F e σ H S) {Q : List V → Hp → Prop} {β : Type} {P : Rs β → Prop} {k : List Dv → Rs β}
    (pex : ∀ C t, P (.ex C t) → ∀ H1 S1, Grow H S H1 S1 → ExW L.G W σ H1 C t) (pno : ¬ P .no) (h : P ((evalBs (clI L.pg lv) m e).bind k))
    (hok : ∀ ds vs H1 S1, evalBs (clI L.pg lv) m e = .ok ds → Grow H S H1 S1 → Rel L.G F e σ H1 S1 → RepBs (G := L.G) H1 S1 vs ds → P (k ds) → Q vs H1) : tAB L lv m W σ H Q := by
  refine ⟨F, e, S, R, ?_⟩
  cases q : evalBs (clI L.pg lv) m e with
  | ok sv =>
    rw [q] at h
    exact fun v H1 S1 g r => hok sv v H1 S1 q g (R.mono g) r h
  | ex C t =>
    rw [q] at h
    exact fun H1 S1 g => pex C t h H1 S1 g
  | no =>
    rw [q] at h
    exact pno h
theorem tO.bind {lv : Nat} {m : Ox} {W : WX} {σ : L2.St} {H S : Hp} {F : Fm} {e : Env} (R : Rel L.G F e σ H S) {Q : Option Int → Hp → Prop} {β : Type} {P : Rs β → Prop} {k : Option Int → Rs β}
    (pex : ∀ C t, P (.ex C t) → ∀ H1 S1, Grow H S H1 S1 → ExW L.G W σ H1 C t) (pno : ¬ P .no) (h : P ((evalO (clI L.pg lv) m e).bind k))
    (hok : ∀ o H1 S1, Grow H S H1 S1 → Rel L.G F e σ H1 S1 → P (k o) → Q o H1) : tO L lv m W σ H Q := by
  refine ⟨F, e, S, R, ?_⟩
  cases q : evalO (clI L.pg lv) m e with
  | ok sv =>
    rw [q] at h
    exact fun H1 S1 g => hok sv H1 S1 g (R.mono g) h
  | ex C t =>
    rw [q] at h
    exact fun H1 S1 g => pex C t h H1 S1 g
  | no =>
    rw [q] at h
    exact pno h
theorem bl_of {G : Gx} {H0 H S : Hp} (sub : Sub S H) {v : V} {sv : Sv} {b : Bool} (r : RepV G H0 H S v sv) (e : sv.toD = .bl b) : v = .bl b := by
  have q := r.b sub
  rw [e] at q
  cases q
  rfl
theorem int_of {G : Gx} {H0 H S : Hp} (sub : Sub S H) {v : V} {sv : Sv} {b : Int} (r : RepV G H0 H S v sv) (e : sv.toD = .int b) : v = .int b := by
  have q := r.b sub
  rw [e] at q
  cases q
  rfl
/-- a test is its expression's value -/
theorem tT_B {lv : Nat} {m : Ex} {W : WX} {σ : L2.St} {H : Hp} {Q : Bool → Hp → Prop} (h : tT L lv m W σ H Q) : tB (tE L lv m W) σ H Q := by
  obtain ⟨F, e, S, R, h⟩ := h
  refine ⟨F, e, S, R, ?_⟩
  cases q : evalE (clI L.pg lv) m e with
  | ok sv =>
    rw [q] at h
    obtain ⟨b, e1, h⟩ := h
    exact fun v H1 S1 g r => ⟨b, bl_of g.sub r e1, h H1 S1 g⟩
  | ex C t =>
    rw [q] at h
    exact h
  | no =>
    rw [q] at h
    exact h
/-! ### the forms of expressions -/
theorem star_of {n : Nat} {se : SE} {e : Expr} {m : Ex} (h : cE n se e = some m) (es : List Expr) (env : PySem.Env) : starEach (e :: es) env = (false, eval e env) :: starEach es env := by
  cases n with
  | zero => cases h
  | succ n => cases e <;> first | rfl | (unfold cE at h; cases h)
theorem nostar {n : Nat} {se : SE} : ∀ {k : Nat} {es : List Expr} {ms : Exs} {env : PySem.Env} {pos : Pos}, cEs k se es = some ms → (backTo pos (starEach es env)).any (·.1) = false
  | _, [], _, _, _, _ => rfl
  | 0, _ :: _, _, _, _, h => by unfold cEs at h; cases h
  | k + 1, e :: es, ms, env, pos, h => by
    unfold cEs at h
    cases h1 : cE k se e with
    | none => rw [h1] at h; cases h
    | some x =>
      cases h2 : cEs k se es with
      | none => rw [h1, h2] at h; cases h
      | some xs =>
        rw [star_of h1]
        have ih := nostar (n := n) (env := env) (pos := pos) h2
        show (false || (backTo pos (starEach es env)).any (·.1)) = false
        rw [ih]
        rfl
theorem plain_ix {n : Nat} {se : SE} {b : Expr} {m : Ex} (h : cE n se b = some m) : PlainIx b := by
  cases n with
  | zero => cases h
  | succ n => cases b <;> first | exact fun _ _ => rfl | (unfold cE at h; cases h)
theorem nofold {n : Nat} {se : SE} {b : Expr} {m : Ex} (h : cE n se b = some m) (env : PySem.Env) : ∀ x, foldedSetIterable b env x = pure x := by
  cases n with
  | zero => cases h
  | succ n => cases b <;> first | exact fun _ => rfl | (unfold cE at h; cases h)
theorem nobehindX {n : Nat} {se : SE} {b : Expr} {m : Ex} (h : cE n se b = some m) (op : CmpOp) : behindInMarks op b = false := by
  cases n with
  | zero => cases h
  | succ n => cases b <;> first | rfl | (unfold cE at h; cases h)
theorem sEqs {x : Str} {y : String} (h : sEq x y = true) : x = (y : Str) := (sEq_iff _ _).mp h
theorem sNe {x y : Str} (h : sEq x y = false) : (x == y) = false := by rw [sEq_beq]; exact h
theorem sNe' {x y : Str} (h : sEq x y = false) : x ≠ y := fun e => by rw [(sEq_iff x y).mpr e] at h; cases h
end Dg

/-! The evaluator is sound: each form of expression. -/
namespace Dg
open PySem PySem.Spec L2
section
variable {L : Lk} {lv : Nat} {se : SE} {X : Cx} {W : WX}
/-! ### names -/
theorem kind_of (xo : XOk L lv se X) {x : Str} {k : NameKind} (h : lkS x se.sc.names = some k) : X.env.scope.names.lookup x = some k := by
  rw [xo.sc, ← lkS_eq]
  exact h
theorem loc_of (xo : XOk L lv se X) {x : Str} {i : Nat} (h : locOf se x = some i) : X.N[i]? = some x ∧ Vis X.env.scope x := by
  unfold locOf at h
  split at h
  · rename_i e; exact ⟨by rw [xo.N]; exact ixOf_get h, .inl (kind_of xo e)⟩
  · rename_i e; exact ⟨by rw [xo.N]; exact ixOf_get h, .inr (.inl (kind_of xo e))⟩
  · rename_i e; exact ⟨by rw [xo.N]; exact ixOf_get h, .inr (.inr (kind_of xo e))⟩
  · cases h
theorem glo_own (xo : XOk L lv se X) {x : Str} {k : Gk} (h : gloOf se x = some (.own k)) : Gl X x ∧ lkS x L.gl = some k := by
  unfold gloOf at h
  split at h
  · rename_i e
    split at h
    · rename_i k' e2
      cases h
      exact ⟨kind_of xo e, by rw [← xo.gl]; exact e2⟩
    · cases h
  · cases h
theorem glo_blt (xo : XOk L lv se X) {x : Str} (h : gloOf se x = some .blt) : Gl X x ∧ lkS x L.gl = none := by
  unfold gloOf at h
  split at h
  · rename_i e
    split at h
    · cases h
    · rename_i e2
      exact ⟨kind_of xo e, by rw [← xo.gl]; exact e2⟩
  · cases h
theorem blt_none (co : CallsOk L lv) (xo : XOk L lv se X) {x : Str} (h : gloOf se x = some .blt) (hb : x ∈ bltNames) : X.mg x = none := by
  rw [xo.mg]
  exact co.blt x hb (glo_blt xo h).2
theorem e_var (xo : XOk L lv se X) {x : Str} {i : Nat} {pos : Pos} (h : locOf se x = some i) (h1 : sEq x "__debug__" = false) (h2 : sEq x "__classdict__" = false) : PE X (.Name x pos) (tE L lv (.var i) W) := by
  obtain ⟨a, b⟩ := loc_of xo h
  refine PE.imp (pe_var a b (sNe h1) (sNe h2)) fun σ H Q ⟨F, e, S, R, o⟩ => ?_
  rw [evalE] at o
  cases q : slot e i with
  | none => rw [q] at o; exact o.elim
  | some sv =>
    rw [q] at o
    obtain ⟨v, e1, ow⟩ := R.sl i sv q
    refine ⟨v, e1, ?_⟩
    cases sv with
    | sh d => exact Out.ok0 R.sub (sv := .sh d) o ow
    | m1 ds =>
      obtain ⟨a, xs, rfl, ha, hz, hr, hn, _⟩ := ow
      exact Out.ok0 R.sub (sv := .bw (.lst ds)) o ⟨a, xs, rfl, .inl (.inl ha), hz, hr⟩
    | l1 ds =>
      obtain ⟨a, xs, rfl, ha, hz, hr, hn, _⟩ := ow
      exact Out.ok0 R.sub (sv := .bw (.lst ds)) o ⟨a, xs, rfl, .inl (.inl ha), hz, hr⟩
    | o1 C fs =>
      obtain ⟨a, dx, xs, rfl, ha, hc, hr, hn, _⟩ := ow
      exact Out.ok0 R.sub (sv := .bw (.obj C fs)) o ⟨a, dx, xs, rfl, ha, hc, hr⟩
    | d1 kvs =>
      obtain ⟨a, kv, rfl, ha, hr, _⟩ := ow
      exact Out.ok0 R.sub (sv := .bw (.dct kvs)) o ⟨a, kv, rfl, ha, hr⟩
    | l2 dss => exact o.elim
    | bw d => exact ow.elim
theorem e_cst {d : Dv} {e : Expr} {v : V} (p : PE X e (tC v)) (h : ∀ S, RepS L.G S v d) : PE X e (tE L lv (.cst d) W) := by
  refine PE.imp p fun σ H Q ⟨F, e, S, R, o⟩ => ?_
  rw [evalE] at o
  exact o.ok0 R.sub (h S)
/-! ### operators -/
theorem outX {σ : L2.St} {H S : Hp} {Q : VK} : ∀ C t, Out L.G W σ H S (.ex C t) Q → ∀ H1 S1, Grow H S H1 S1 → ExW L.G W σ H1 C t := fun _ _ h => h
theorem outN {σ : L2.St} {H S : Hp} {Q : VK} : ¬ Out L.G W σ H S .no Q := fun h => h
theorem e_bin (xo : XOk L lv se X) {a b : Expr} {ma mb : Ex} {op : Operator} {pos : Pos} (ia : PE X a (tE L lv ma W)) (ib : PE X b (tE L lv mb W)) : PE X (.BinOp a op b pos) (tE L lv (.bin op ma mb) W) := by
  refine PE.imp (pe_op (op_bin op) ia ib) fun σ H Q ⟨F, e, S, R, o⟩ => ?_
  rw [xo.K]
  rw [evalE] at o
  refine tE.bind R (P := fun r => Out L.G W σ H S r Q) outX outN o fun sx v H1 S1 g1 R1 r1 o1 => ?_
  refine tE.bind R1 (P := fun r => Out L.G W σ H S r Q) (fun C t h H2 S2 g => outX C t h H2 S2 (g1.trans g)) outN o1 fun sy u H2 S2 g2 R2 r2 o2 => ?_
  exact bin_ok R2.sub ((r1.mono g2).b R2.sub) (r2.b R2.sub) (o2.later (g1.trans g2))
theorem e_neg (xo : XOk L lv se X) {a : Expr} {ma : Ex} {pos : Pos} (ia : PE X a (tE L lv ma W)) : PE X (.UnaryOp .USub a pos) (tE L lv (.neg ma) W) := by
  refine PE.imp (pe_un un_neg ia) fun σ H Q ⟨F, e, S, R, o⟩ => ?_
  rw [evalE] at o
  refine tE.bind R (P := fun r => Out L.G W σ H S r Q) outX outN o fun sx v H1 S1 g1 R1 r1 o1 => ?_
  split at o1
  · rename_i i hi
    exact ⟨i, int_of R1.sub r1 hi, (o1.later g1).ok0 R1.sub (.int _)⟩
  · exact o1.elim
theorem e_not (xo : XOk L lv se X) {a : Expr} {ma : Ex} {pos : Pos} (ia : PE X a (tE L lv ma W)) : PE X (.UnaryOp .Not a pos) (tE L lv (.not ma) W) := by
  refine PE.imp (pe_not ia) fun σ H Q ⟨F, e, S, R, o⟩ => ?_
  rw [evalE] at o
  refine tE.bind R (P := fun r => Out L.G W σ H S r Q) outX outN o fun sx v H1 S1 g1 R1 r1 o1 => ?_
  split at o1
  · rename_i i hi
    exact ⟨i, bl_of R1.sub r1 hi, (o1.later g1).ok0 R1.sub (.bl _)⟩
  · exact o1.elim
theorem outTX {σ : L2.St} {H S : Hp} {Q : Bool → Hp → Prop} : ∀ C t, OutT L W σ H S (.ex C t) Q → ∀ H1 S1, Grow H S H1 S1 → ExW L.G W σ H1 C t := fun _ _ h => h
/-- a test of a part -/
theorem tT.bind {m : Ex} {σ : L2.St} {H S : Hp} {F : Fm} {e : Env} (R : Rel L.G F e σ H S) {Q : Bool → Hp → Prop} {β : Type} {P : Rs β → Prop} {k : Sv → Rs β}
    (pex : ∀ C t, P (.ex C t) → ∀ H1 S1, Grow H S H1 S1 → ExW L.G W σ H1 C t) (pno : ¬ P .no) (h : P ((evalE (clI L.pg lv) m e).bind k))
    (hb : ∀ sv, P (k sv) → ∃ b, sv.toD = .bl b) (hok : ∀ sv b H1 S1, sv.toD = .bl b → Grow H S H1 S1 → Rel L.G F e σ H1 S1 → P (k sv) → Q b H1) : tT L lv m W σ H Q := by
  refine ⟨F, e, S, R, ?_⟩
  cases q : evalE (clI L.pg lv) m e with
  | ok sv =>
    rw [q] at h
    obtain ⟨b, e1⟩ := hb sv h
    exact ⟨b, e1, fun H1 S1 g => hok sv b H1 S1 e1 g (R.mono g) h⟩
  | ex C t =>
    rw [q] at h
    exact fun H1 S1 g => pex C t h H1 S1 g
  | no =>
    rw [q] at h
    exact pno h
theorem t_not (xo : XOk L lv se X) {a : Expr} {ma : Ex} {pos : Pos} (ia : PT X a (tT L lv ma W)) : PT X (.UnaryOp .Not a pos) (tT L lv (.not ma) W) := by
  refine PT.imp (pt_not ia) fun σ H Q ⟨F, e, S, R, o⟩ => ?_
  rw [evalE] at o
  refine tT.bind R (P := fun r => OutT L W σ H S r Q) outTX (fun h => h) o (fun sv h => ?_) fun sv b H1 S1 hb g R1 h => ?_
  · split at h
    · exact ⟨_, by assumption⟩
    · exact h.elim
  · rw [hb] at h
    obtain ⟨c, hc, h⟩ := h
    cases hc
    exact h H1 S1 g
theorem e_and (xo : XOk L lv se X) {a b : Expr} {r : List Expr} {ma mb : Ex} {pos : Pos} (ia : PE X a (tE L lv ma W)) (ib : PE X (.BoolOp .And (b :: r) pos) (tE L lv mb W)) : PE X (.BoolOp .And (a :: b :: r) pos) (tE L lv (.and ma mb) W) := by
  refine PE.imp (pe_and ia ib) fun σ H Q ⟨F, e, S, R, o⟩ => ?_
  rw [evalE] at o
  refine tE.bind R (P := fun r => Out L.G W σ H S r Q) outX outN o fun sx v H1 S1 g1 R1 r1 o1 => ?_
  split at o1
  · rename_i hi
    refine ⟨true, bl_of R1.sub r1 hi, ?_⟩
    rw [if_pos rfl]
    refine tE.bind R1 (P := fun r => Out L.G W σ H S r Q) (fun C t h H2 S2 g => outX C t h H2 S2 (g1.trans g)) outN o1 fun sy u H2 S2 g2 R2 r2 o2 => ?_
    split at o2
    · rename_i k hk
      rw [bl_of R2.sub r2 hk]
      exact (o2.later (g1.trans g2)).ok0 R2.sub (.bl _)
    · exact o2.elim
  · rename_i hi
    refine ⟨false, bl_of R1.sub r1 hi, ?_⟩
    rw [if_neg Bool.false_ne_true]
    exact (o1.later g1).ok0 R1.sub (.bl _)
  · exact o1.elim
theorem e_or (xo : XOk L lv se X) {a b : Expr} {r : List Expr} {ma mb : Ex} {pos : Pos} (ia : PE X a (tE L lv ma W)) (ib : PE X (.BoolOp .Or (b :: r) pos) (tE L lv mb W)) : PE X (.BoolOp .Or (a :: b :: r) pos) (tE L lv (.or ma mb) W) := by
  refine PE.imp (pe_or ia ib) fun σ H Q ⟨F, e, S, R, o⟩ => ?_
  rw [evalE] at o
  refine tE.bind R (P := fun r => Out L.G W σ H S r Q) outX outN o fun sx v H1 S1 g1 R1 r1 o1 => ?_
  split at o1
  · rename_i hi
    refine ⟨false, bl_of R1.sub r1 hi, ?_⟩
    rw [if_neg Bool.false_ne_true]
    refine tE.bind R1 (P := fun r => Out L.G W σ H S r Q) (fun C t h H2 S2 g => outX C t h H2 S2 (g1.trans g)) outN o1 fun sy u H2 S2 g2 R2 r2 o2 => ?_
    split at o2
    · rename_i k hk
      rw [bl_of R2.sub r2 hk]
      exact (o2.later (g1.trans g2)).ok0 R2.sub (.bl _)
    · exact o2.elim
  · rename_i hi
    refine ⟨true, bl_of R1.sub r1 hi, ?_⟩
    rw [if_pos rfl]
    exact (o1.later g1).ok0 R1.sub (.bl _)
  · exact o1.elim
theorem t_and (xo : XOk L lv se X) {a b : Expr} {r : List Expr} {ma mb : Ex} {pos : Pos} (ia : PT X a (tT L lv ma W)) (ib : PT X (.BoolOp .And (b :: r) pos) (tT L lv mb W)) : PT X (.BoolOp .And (a :: b :: r) pos) (tT L lv (.and ma mb) W) := by
  refine PT.imp (PW.pt (pw_and ia (PW.of ib))) fun σ H Q ⟨F, e, S, R, o⟩ => ?_
  rw [evalE] at o
  refine tT.bind R (P := fun r => OutT L W σ H S r Q) outTX (fun h => h) o (fun sv h => ?_) fun sv k H1 S1 hb g R1 h => ?_
  · split at h
    · exact ⟨_, by assumption⟩
    · exact ⟨_, by assumption⟩
    · exact h.elim
  · rw [hb] at h
    cases k with
    | true =>
      rw [if_pos rfl]
      refine tT.bind R1 (P := fun r => OutT L W σ H S r Q) (fun C t h H2 S2 g2 => outTX C t h H2 S2 (g.trans g2)) (fun h => h) h (fun sv h => ?_) fun sv k H2 S2 hb2 g2 R2 h => ?_
      · split at h
        · exact ⟨_, by assumption⟩
        · exact h.elim
      · rw [hb2] at h
        obtain ⟨c, hc, h⟩ := h
        cases hc
        exact h H2 S2 (g.trans g2)
    | false =>
      rw [if_neg Bool.false_ne_true]
      obtain ⟨c, hc, h⟩ := h
      cases hc
      exact h H1 S1 g
theorem t_or (xo : XOk L lv se X) {a b : Expr} {r : List Expr} {ma mb : Ex} {pos : Pos} (ia : PT X a (tT L lv ma W)) (ib : PT X (.BoolOp .Or (b :: r) pos) (tT L lv mb W)) : PT X (.BoolOp .Or (a :: b :: r) pos) (tT L lv (.or ma mb) W) := by
  refine PT.imp (PW.pt (pw_or ia (PW.of ib))) fun σ H Q ⟨F, e, S, R, o⟩ => ?_
  rw [evalE] at o
  refine tT.bind R (P := fun r => OutT L W σ H S r Q) outTX (fun h => h) o (fun sv h => ?_) fun sv k H1 S1 hb g R1 h => ?_
  · split at h
    · exact ⟨_, by assumption⟩
    · exact ⟨_, by assumption⟩
    · exact h.elim
  · rw [hb] at h
    cases k with
    | false =>
      rw [if_neg Bool.false_ne_true]
      refine tT.bind R1 (P := fun r => OutT L W σ H S r Q) (fun C t h H2 S2 g2 => outTX C t h H2 S2 (g.trans g2)) (fun h => h) h (fun sv h => ?_) fun sv k H2 S2 hb2 g2 R2 h => ?_
      · split at h
        · exact ⟨_, by assumption⟩
        · exact h.elim
      · rw [hb2] at h
        obtain ⟨c, hc, h⟩ := h
        cases hc
        exact h H2 S2 (g.trans g2)
    | true =>
      rw [if_pos rfl]
      obtain ⟨c, hc, h⟩ := h
      cases hc
      exact h H1 S1 g
theorem t_one {op : BoolOp} {a : Expr} {ma : Ex} {pos : Pos} (ia : PT X a (tT L lv ma W)) : PT X (.BoolOp op [a] pos) (tT L lv ma W) := by
  cases op with
  | And => exact PW.pt (pw_and1 ia)
  | Or => exact PW.pt (pw_or1 ia)
/-! ### comparisons -/
theorem hu_X (xo : XOk L lv se X) : X.A.units + 70 < cLine := by
  have := xo.room.un
  omega
theorem cmp_read (xo : XOk L lv se X) {ma mb : Ex} {op : CmpOp} {σ : L2.St} {H : Hp} {Q : VK} (h : tE L lv (.cmp op ma mb) W σ H Q) : tOp (rCmp X.K op) (tE L lv ma W) (tE L lv mb W) σ H Q := by
  obtain ⟨F, e, S, R, o⟩ := h
  rw [xo.K]
  rw [evalE] at o
  refine tE.bind R (P := fun r => Out L.G W σ H S r Q) outX outN o fun sx v H1 S1 g1 R1 r1 o1 => ?_
  refine tE.bind R1 (P := fun r => Out L.G W σ H S r Q) (fun C t h H2 S2 g => outX C t h H2 S2 (g1.trans g)) outN o1 fun sy u H2 S2 g2 R2 r2 o2 => ?_
  refine cmp_ok (W := W) (σ := σ) R2.sub ((r1.mono g2).b R2.sub) (r2.b R2.sub) ?_
  cases q : cmpop op sx.toD sy.toD with
  | ok k =>
    rw [q] at o2
    exact (Out.later (g1.trans g2) o2).ok0 R2.sub (.bl _)
  | ex C t => rw [cmp_noex] at q; cases q
  | no => rw [q] at o2; exact o2.elim
where
  cmp_noex {op : CmpOp} {a b : Dv} {C : Nat} {t : Option Int} : (cmpop op a b = .ex C t) = False := by
    refine propext ⟨fun h => ?_, fun h => h.elim⟩
    unfold cmpop at h
    split at h <;> first | (split at h <;> cases h) | cases h
theorem e_cmp (xo : XOk L lv se X) {n : Nat} {a b : Expr} {ma mb : Ex} {op : CmpOp} {pos : Pos} (hb : cE n se b = some mb) (ia : PE X a (tE L lv ma W)) (ib : PE X b (tE L lv mb W)) :
    PE X (.Compare a [op] [b] pos) (tE L lv (.cmp op ma mb) W) :=
  PE.imp (pe_cmpR (op_cmp (by have := hu_X xo; omega) op) ia ib (nobehindX hb op)) fun σ H Q h => cmp_read xo h
theorem t_cmp (xo : XOk L lv se X) {n : Nat} {a b : Expr} {ma mb : Ex} {op : CmpOp} {pos : Pos} (hb : cE n se b = some mb) (ia : PE X a (tE L lv ma W)) (ib : PE X b (tE L lv mb W)) :
    PT X (.Compare a [op] [b] pos) (tT L lv (.cmp op ma mb) W) :=
  PT.imp (pt_cmpR (op_cmp (by have := hu_X xo; omega) op) ia ib (nobehindX hb op)) fun σ H Q h => cmp_read xo (tT_B h)
theorem cmp2_read (xo : XOk L lv se X) {ma mb mc : Ex} {op op2 : CmpOp} {σ : L2.St} {H : Hp} {Q : VK} (h : tE L lv (.cmp2 op op2 ma mb mc) W σ H Q) : tChain (rCmp X.K op) (rCmp X.K op2) (tE L lv ma W) (tE L lv mb W) (tE L lv mc W) σ H Q := by
  obtain ⟨F, e, S, R, o⟩ := h
  rw [xo.K]
  rw [evalE] at o
  refine tE.bind R (P := fun r => Out L.G W σ H S r Q) outX outN o fun sx v H1 S1 g1 R1 r1 o1 => ?_
  refine tE.bind R1 (P := fun r => Out L.G W σ H S r Q) (fun C t h H2 S2 g => outX C t h H2 S2 (g1.trans g)) outN o1 fun sy u H2 S2 g2 R2 r2 o2 => ?_
  refine cmp_ok (W := W) (σ := σ) R2.sub ((r1.mono g2).b R2.sub) (r2.b R2.sub) ?_
  cases q : cmpop op sx.toD sy.toD with
  | ok k =>
    rw [q] at o2
    have o2 : Out L.G W σ H S (if k then (evalE (clI L.pg lv) mc e).bind fun z => (cmpop op2 sy.toD z.toD).bind fun k2 => .ok (.sh (.bl k2)) else .ok (.sh (.bl false))) Q := o2
    refine ⟨k, rfl, ?_⟩
    cases k with
    | true =>
      rw [if_pos rfl] at o2 ⊢
      refine tE.bind R2 (P := fun r => Out L.G W σ H S r Q) (fun C t h H3 S3 g => outX C t h H3 S3 ((g1.trans g2).trans g)) outN o2 fun sz w H3 S3 g3 R3 r3 o3 => ?_
      refine cmp_ok (W := W) (σ := σ) R3.sub ((r2.mono g3).b R3.sub) (r3.b R3.sub) ?_
      cases q3 : cmpop op2 sy.toD sz.toD with
      | ok k =>
        rw [q3] at o3
        exact (Out.later ((g1.trans g2).trans g3) o3).ok0 R3.sub (.bl _)
      | ex C t => rw [cmp_read.cmp_noex] at q3; cases q3
      | no => rw [q3] at o3; exact o3.elim
    | false =>
      rw [if_neg Bool.false_ne_true] at o2 ⊢
      exact (Out.later (g1.trans g2) o2).ok0 R2.sub (.bl _)
  | ex C t => rw [cmp_read.cmp_noex] at q; cases q
  | no => rw [q] at o2; exact o2.elim
/-! ### items, fields -/
theorem e_idx (xo : XOk L lv se X) {n : Nat} {a b : Expr} {ma mb : Ex} {pos : Pos} (hb : cE n se b = some mb) (ia : PE X a (tE L lv ma W)) (ib : PE X b (tE L lv mb W)) : PE X (.Subscript a b pos) (tE L lv (.idx ma mb) W) := by
  refine PE.imp (pe_ix ix_seq ia ib (plain_ix hb)) fun σ H Q ⟨F, e, S, R, o⟩ => ?_
  rw [xo.K]
  rw [evalE] at o
  refine tE.bind R (P := fun r => Out L.G W σ H S r Q) outX outN o fun sx v H1 S1 g1 R1 r1 o1 => ?_
  refine tE.bind R1 (P := fun r => Out L.G W σ H S r Q) (fun C t h H2 S2 g => outX C t h H2 S2 (g1.trans g)) outN o1 fun sy u H2 S2 g2 R2 r2 o2 => ?_
  cases q : index sx.toD sy.toD with
  | ok d =>
    rw [q] at o2
    exact ix_ok R2.sub ((r1.mono g2).b R2.sub) (r2.b R2.sub) q fun w rw' => (Out.later (g1.trans g2) o2).ok0 R2.sub (sv := .sh d) rw'
  | ex C t =>
    unfold index at q
    split at q
    · cases q1 : atI _ _ <;> rw [q1] at q <;> cases q
    · cases q1 : atI _ _ <;> rw [q1] at q <;> cases q
    · split at q
      · split at q <;> cases q
      · cases q
    · cases q
  | no => rw [q] at o2; exact o2.elim
theorem rep_fld {G : Gx} {S : Hp} : ∀ {xs : List (Str × V)} {fs : List (Nat × Dv)} {f : Nat} {x : Str} {d : Dv}, RepF G S xs fs → G.fl.Nodup → G.fl[f]? = some x → fs.lookup f = some d → ∃ v, xs.lookup x = some v ∧ RepS G S v d
  | _, _, f, x, d, .nil, _, _, h => by cases h
  | _, _, f, x, d, .cons (x := y) (v := v) (f := g) (d := d') e r q, nd, hx, h => by
    rw [List.lookup_cons] at h ⊢
    by_cases hf : f = g
    · subst hf
      rw [hx] at e
      cases e
      simp only [beq_self_eq_true] at h ⊢
      cases h
      exact ⟨v, rfl, r⟩
    · have h1 : (f == g) = false := by simpa using hf
      have h2 : (x == y) = false := by
        simp only [beq_eq_false_iff_ne, ne_eq]
        rintro rfl
        exact hf (nd_ix nd hx e)
      rw [h1] at h
      rw [h2]
      exact rep_fld q nd hx h
theorem repF_keys {G : Gx} {S : Hp} : ∀ {xs : List (Str × V)} {fs : List (Nat × Dv)}, RepF G S xs fs → ∀ p ∈ xs, p.1 ∈ G.fl
  | _, _, .nil, _, h => by cases h
  | _, _, .cons e r q, p, h => by
    rcases List.mem_cons.mp h with rfl | h
    · exact List.mem_of_getElem? e
    · exact repF_keys q p h
theorem lookup_out {x : Str} : ∀ {xs : List (Str × V)}, (∀ p ∈ xs, p.1 ≠ x) → xs.lookup x = none
  | [], _ => rfl
  | (y, v) :: r, h => by
    have h1 : (x == y) = false := by
      simp only [beq_eq_false_iff_ne, ne_eq]
      exact fun e => h (y, v) List.mem_cons_self e.symm
    rw [List.lookup_cons, h1]
    exact lookup_out fun p hp => h p (List.mem_cons_of_mem _ hp)
end
end Dg

/-! The evaluator is sound: fields, displays, calls. -/
namespace Dg
open PySem PySem.Spec L2
section
variable {L : Lk} {lv : Nat} {se : SE} {X : Cx} {W : WX}
theorem base_of {a : Expr} (h : bareCall a = false) (f : Str) (env : PySem.Env) (wh : Sem Value) : attributeBase a f env wh = wh := by
  cases a <;> try rfl
  rename_i g args kws pos
  cases g <;> try rfl
  cases args <;> try rfl
  cases kws <;> try rfl
  cases h
theorem e_fld (co : CallsOk L lv) (xo : XOk L lv se X) {a : Expr} {f : Str} {j : Nat} {ma : Ex} {pos : Pos} (hb : bareCall a = false) (hf : ixOf f se.fl = some j) (ia : PE X a (tE L lv ma W)) : PE X (.Attribute a f pos) (tE L lv (.fld ma j) W) := by
  refine PE.imp (pe_fld ia (base_of hb f _ _)) fun σ H Q ⟨F, e, S, R, o⟩ => ?_
  rw [xo.K]
  rw [evalE] at o
  refine tE.bind R (P := fun r => Out L.G W σ H S r Q) outX outN o fun sx v H1 S1 g1 R1 r1 o1 => ?_
  have q := r1.b R1.sub
  have hx : L.G.fl[j]? = some f := by rw [← xo.fl]; exact ixOf_get hf
  cases hs : sx.toD with
  | obj C fs =>
    rw [hs] at q o1
    obtain ⟨b, dx, xs, rfl, hb', hc, hr⟩ := q
    have o1 : Out L.G W σ H S ((ofO (fs.lookup j)).bind fun d => .ok (.sh d)) Q := o1
    cases hl : fs.lookup j with
    | none => rw [hl] at o1; exact o1.elim
    | some d =>
      rw [hl] at o1
      obtain ⟨w, e1, e2⟩ := rep_fld hr co.fnd hx hl
      obtain ⟨k1, k2⟩ := co.fld C hc
      exact ⟨b, _, dx, xs, w, rfl, hb', k1, k2 f (List.mem_of_getElem? hx), e1, (Out.later g1 o1).ok0 R1.sub (sv := .sh d) e2⟩
  | exc C t =>
    rw [hs] at q o1
    cases q
    exact o1.elim
  | _ =>
    rw [hs] at o1
    exact o1.elim
/-! ### arguments -/
theorem a_nil : PA X [] (tA L lv .nil W) := PA.imp pa_nil fun σ H Q ⟨F, e, S, R, o⟩ => by
  rw [evalEs] at o
  exact o [] H S (.refl R.sub) .nil
theorem outLX {σ : L2.St} {H S : Hp} {Q : List V → Hp → Prop} : ∀ C t, OutL L W σ H S (.ex C t) Q → ∀ H1 S1, Grow H S H1 S1 → ExW L.G W σ H1 C t := fun _ _ h => h
theorem outLBX {σ : L2.St} {H S : Hp} {Q : List V → Hp → Prop} : ∀ C t, OutLB L W σ H S (.ex C t) Q → ∀ H1 S1, Grow H S H1 S1 → ExW L.G W σ H1 C t := fun _ _ h => h
theorem a_cons {n : Nat} {a : Expr} {r : List Expr} {ma : Ex} {mr : Exs} (ha : cE n se a = some ma) (ia : PE X a (tE L lv ma W)) (ir : PA X r (tA L lv mr W)) : PA X (a :: r) (tA L lv (.cons ma mr) W) := by
  refine PA.imp (pa_cons ia ir (star_of ha _ _)) fun σ H Q ⟨F, e, S, R, o⟩ => ?_
  rw [evalEs] at o
  refine tE.bind R (P := fun r => OutL L W σ H S r Q) outLX (fun h => h) o fun sx v H1 S1 g1 R1 r1 o1 => ?_
  cases hs : sx.share with
  | none => rw [hs] at o1; exact o1.elim
  | some d =>
    rw [hs] at o1
    obtain ⟨S2, g2, s2, q⟩ := RepV.share2 g1 r1 hs
    refine tA.bind (R.mono g2) (P := fun r => OutL L W σ H S r Q) (fun C t h H3 S3 g => outLX C t h H3 S3 (g2.trans g)) (fun h => h) o1 fun ds vs H3 S3 _ g3 R3 r3 o3 => ?_
    exact o3 _ _ _ (g2.trans g3) (.cons (q.mono g3.s) r3)
theorem b_nil : PA X [] (tAB L lv .nil W) := PA.imp pa_nil fun σ H Q ⟨F, e, S, R, o⟩ => by
  rw [evalBs] at o
  exact o [] H S (.refl R.sub) trivial
theorem repBs_mono {G : Gx} {H S H' S' : Hp} (h : Sub H H') (s : Sub S S') : ∀ {ds : List Dv} {vs : List V}, RepBs (G := G) H S vs ds → RepBs (G := G) H' S' vs ds
  | [], [], _ => trivial
  | [], _ :: _, r => r.elim
  | _ :: _, [], r => r.elim
  | _ :: _, _ :: _, r => ⟨r.1.mono h s, repBs_mono h s r.2⟩
theorem b_cons {n : Nat} {a : Expr} {r : List Expr} {ma : Ex} {mr : Exs} (ha : cE n se a = some ma) (ia : PE X a (tE L lv ma W)) (ir : PA X r (tAB L lv mr W)) : PA X (a :: r) (tAB L lv (.cons ma mr) W) := by
  refine PA.imp (pa_cons ia ir (star_of ha _ _)) fun σ H Q ⟨F, e, S, R, o⟩ => ?_
  rw [evalBs] at o
  refine tE.bind R (P := fun r => OutLB L W σ H S r Q) outLBX (fun h => h) o fun sx v H1 S1 g1 R1 r1 o1 => ?_
  refine tAB.bind R1 (P := fun r => OutLB L W σ H S r Q) (fun C t h H3 S3 g => outLBX C t h H3 S3 (g1.trans g)) (fun h => h) o1 fun ds vs H3 S3 _ g3 R3 r3 o3 => ?_
  exact o3 _ _ _ (g1.trans g3) ⟨(r1.b R1.sub).mono g3.h g3.s, r3⟩
theorem evs_len {P : Pg} : ∀ {es : List Expr} {n : Nat} {ms : Exs} {e : Env} {ds : List Dv}, cEs n se es = some ms → evalEs (clI P lv) ms e = .ok ds → ds.length = es.length
  | [], _, ms, e, ds, h, q => by
    unfold cEs at h
    cases h
    rw [evalEs] at q
    cases q
    rfl
  | a :: r, 0, ms, e, ds, h, q => by unfold cEs at h; cases h
  | a :: r, n + 1, ms, e, ds, h, q => by
    unfold cEs at h
    cases h1 : cE n se a with
    | none => rw [h1] at h; cases h
    | some x =>
      cases h2 : cEs n se r with
      | none => rw [h1, h2] at h; cases h
      | some xs =>
        rw [h1, h2] at h
        cases h
        rw [evalEs] at q
        cases q1 : evalE (clI P lv) x e with
        | ex C t => rw [q1] at q; cases q
        | no => rw [q1] at q; cases q
        | ok sv =>
          rw [q1, Rs.bind_ok] at q
          cases q2 : sv.share with
          | none => rw [q2] at q; cases q
          | some d =>
            rw [q2] at q
            cases q3 : evalEs (clI P lv) xs e with
            | ex C t => rw [show ofO (some d) = .ok d from rfl, Rs.bind_ok, q3] at q; cases q
            | no => rw [show ofO (some d) = .ok d from rfl, Rs.bind_ok, q3] at q; cases q
            | ok ds2 =>
              rw [show ofO (some d) = .ok d from rfl, Rs.bind_ok, q3, Rs.bind_ok] at q
              cases q
              rw [List.length_cons, List.length_cons, evs_len h2 q3]
/-! ### displays -/
theorem e_tup {n : Nat} {es : List Expr} {ms : Exs} {k : Nat} {pos : Pos} (hes : cEs n se es = some ms) (hl : es.length ≤ 1000) (ia : PA X es (tA L lv ms W)) : PE X (.Tuple es k pos) (tE L lv (.tup ms) W) := by
  refine PE.imp (pe_tup ia) fun σ H Q ⟨F, e, S, R, o⟩ => ?_
  rw [evalE] at o
  refine tA.bind R (P := fun r => Out L.G W σ H S r Q) outX outN o fun ds vs H1 S1 q g1 R1 r1 o1 => ?_
  have hd := evs_len hes q
  have e1 := r1.len
  refine ⟨by rw [← lim]; unfold LIM; omega, fun p hp => ?_⟩
  have n1 := g1.sub.none hp
  exact o1 _ _ _ (g1.trans (Grow.add g1.sub hp)) (.tup (.inl (.inl upd_same)) (by unfold LIM; omega) (r1.mono (.new n1)))
theorem e_lst {n : Nat} {es : List Expr} {ms : Exs} {pos : Pos} (hes : cEs n se es = some ms) (hl : es.length ≤ 1000) (ia : PA X es (tA L lv ms W)) : PE X (.List es pos) (tE L lv (.lst ms) W) := by
  refine PE.imp (pe_lst ia) fun σ H Q ⟨F, e, S, R, o⟩ => ?_
  rw [evalE] at o
  refine tA.bind R (P := fun r => Out L.G W σ H S r Q) outX outN o fun ds vs H1 S1 q g1 R1 r1 o1 => ?_
  have hd := evs_len hes q
  have e1 := r1.len
  refine ⟨by rw [← lim]; unfold LIM; omega, fun p hp => ?_⟩
  exact o1 _ _ _ (g1.trans (Grow.own g1.sub hp)) ⟨p, _, rfl, upd_same, by unfold LIM; omega, r1, g1.sub.none hp, g1.h.none hp⟩
theorem outOX {σ : L2.St} {H S : Hp} {Q : Option Int → Hp → Prop} : ∀ C t, OutOp L W σ H S (.ex C t) Q → ∀ H1 S1, Grow H S H1 S1 → ExW L.G W σ H1 C t := fun _ _ h => h
theorem o_none : PO X none (tO L lv .non W) := PO.imp po_none fun σ H Q ⟨F, e, S, R, o⟩ => by
  rw [evalO] at o
  exact o H S (.refl R.sub)
theorem o_some {a : Expr} {ma : Ex} (ia : PE X a (tE L lv ma W)) : PO X (some a) (tO L lv (.som ma) W) := by
  refine PO.imp (po_some ia) fun σ H Q ⟨F, e, S, R, o⟩ => ?_
  rw [evalO] at o
  refine tE.bind R (P := fun r => OutOp L W σ H S r Q) outOX (fun h => h) o fun sx v H1 S1 g1 R1 r1 o1 => ?_
  split at o1
  · rename_i i hi
    exact ⟨i, int_of R1.sub r1 hi, o1 H1 S1 g1⟩
  · exact o1.elim
theorem e_slc (xo : XOk L lv se X) {a : Expr} {lo hi : Option Expr} {ma : Ex} {ml mh : Ox} {p2 pos : Pos} (ia : PE X a (tE L lv ma W)) (il : PO X lo (tO L lv ml W)) (ih : PO X hi (tO L lv mh W)) : PE X (.Subscript a (.Slice lo hi none p2) pos) (tE L lv (.slc ma ml mh) W) := by
  refine PE.imp (pe_slice sl_X ia il ih) fun σ H Q ⟨F, e, S, R, o⟩ => ?_
  rw [xo.K]
  rw [evalE] at o
  refine tE.bind R (P := fun r => Out L.G W σ H S r Q) outX outN o fun sx v H1 S1 g1 R1 r1 o1 => ?_
  refine tO.bind R1 (P := fun r => Out L.G W σ H S r Q) (fun C t h H2 S2 g => outX C t h H2 S2 (g1.trans g)) outN o1 fun l H2 S2 g2 R2 o2 => ?_
  refine tO.bind R2 (P := fun r => Out L.G W σ H S r Q) (fun C t h H3 S3 g => outX C t h H3 S3 ((g1.trans g2).trans g)) outN o2 fun h H3 S3 g3 R3 o3 => ?_
  exact sl_ok R3.sub ((r1.mono (g2.trans g3)).b R3.sub) (o3.later ((g1.trans g2).trans g3))
/-! ### calls -/
/-- a promise, for a call's end -/
theorem spF_of {f : Nat} {ds : List Dv} {vs : List V} {σ : L2.St} {H S H1 S1 : Hp} {Q : VK} (g : Grow H S H1 S1) (r : RepL L.G S1 vs ds) (hl : vs.length = (L.psF f).length) (o : Out L.G W σ H S (callI L.pg lv f ds) Q) : spF L lv f vs H1 Q (WE W σ) := by
  refine ⟨S1, ds, g.sub, r, hl, ?_⟩
  have o2 := o.later g
  cases q : callI L.pg lv f ds with
  | ok sv => rw [q] at o2; exact o2
  | ex C t =>
    rw [q] at o2
    intro H' S' g'
    have z := o2 H' S' g'
    cases t with
    | none => exact z
    | some i => exact z
  | no => rw [q] at o2; exact o2.elim
theorem fn_at (xo : XOk L lv se X) {f : Addr} {fd : FuncData} {ps : List Str} {sp : Sp} (F : FnOk L.P L.w L.G.K L.mg L.base (L2.CX L.P L.w) (3 * lv) f fd ps sp) : FnOk X.prog X.w X.K X.mg X.base (L2.CX X.prog X.w) (3 * lv) f fd ps sp := by
  rw [xo.prog, xo.w, xo.K, xo.mg, xo.base]
  exact F
end
end Dg

/-! The evaluator is sound: calls. -/
namespace Dg
open PySem PySem.Spec L2
section
variable {L : Lk} {lv : Nat} {se : SE} {X : Cx} {W : WX}
theorem args_star {n : Nat} {e : Expr} {es : List Expr} {ms : Exs} (h : cEs n se (e :: es) = some ms) (env : PySem.Env) (pos : Pos) : starEach (e :: es) env = (false, eval e env) :: starEach es env ∧ (backTo pos (starEach es env)).any (·.1) = false := by
  cases n with
  | zero => unfold cEs at h; cases h
  | succ n =>
    unfold cEs at h
    cases h1 : cE n se e with
    | none => rw [h1] at h; cases h
    | some x =>
      cases h2 : cEs n se es with
      | none => rw [h1, h2] at h; cases h
      | some xs => exact ⟨star_of h1 _ _, nostar (n := n) h2⟩
theorem nil_ms {n : Nat} {ms : Exs} (h : cEs n se [] = some ms) : ms = .nil := by
  unfold cEs at h
  cases h
  rfl
/-- the promise of a call -/
theorem call_read {f : Nat} {ms : Exs} {σ : L2.St} {H : Hp} {Q : VK} (hlen : ∀ (ds : List Dv), callI L.pg lv f ds ≠ .no → ds.length = (L.psF f).length) (h : tE L lv (.call f ms) W σ H Q) : tCallS (spF L lv f) (WE W) (tA L lv ms W) σ H Q := by
  obtain ⟨F, e, S, R, o⟩ := h
  rw [evalE] at o
  refine tA.bind R (P := fun r => Out L.G W σ H S r Q) outX outN o fun ds vs H1 S1 _ g1 R1 r1 o1 => ?_
  have e1 := r1.len
  have e2 := hlen ds fun q => by
    have o1 : Out L.G W σ H S (callI L.pg lv f ds) Q := o1
    rw [q] at o1
    exact o1
  exact spF_of g1 r1 (by omega) o1
theorem tA_nil {σ : L2.St} {H : Hp} {Q : List V → Hp → Prop} (h : tA L lv .nil W σ H Q) : tNil σ H Q := by
  obtain ⟨F, e, S, R, o⟩ := h
  rw [evalEs] at o
  exact o [] H S (.refl R.sub) .nil
theorem callI_len {P : Pg} {n f : Nat} {d : Fd} {ds : List Dv} (hd : P.fn f = some d) (h : callI P n f ds ≠ .no) : ds.length = d.np := by
  cases n with
  | zero => rw [callI] at h; exact absurd rfl h
  | succ n =>
    rw [callI, hd] at h
    by_cases q : ds.length = d.np
    · exact q
    · exact absurd (if_neg q) h
theorem e_call (tk : Takes X W) (co : CallsOk L lv) (xo : XOk L lv se X) {n f : Nat} {x : Str} {p pos : Pos} {es : List Expr} {ms : Exs} (hx : gloOf se x = some (.own (.fn f))) (hd : sEq x "__debug__" = false) (hes : cEs n se es = some ms)
    (ia : PA X es (tA L lv ms W)) : PE X (.Call (.Name x p) es [] pos) (tE L lv (.call f ms) W) := by
  obtain ⟨gl, lk⟩ := glo_own xo hx
  obtain ⟨hm, hk, hb, hln, F⟩ := co.fn x f lk
  have hl : ∀ ds : List Dv, callI L.pg lv f ds ≠ .no → ds.length = (L.psF f).length := hln
  cases es with
  | nil =>
    cases nil_ms hes
    refine PE.imp (pe_call0S (E := WE W) (fn_at xo F) (xo.room.mono (by omega)) gl (by rw [xo.mg]; exact hm) (by rw [xo.K]; exact hk) (by rw [xo.K]; exact hb) (passAt tk) (sNe hd)) fun σ H Q h => ?_
    exact tA_nil (call_read hl h)
  | cons e es =>
    obtain ⟨s1, s2⟩ := args_star hes X.env pos
    exact PE.imp (pe_callS (E := WE W) (fn_at xo F) (xo.room.mono (by omega)) gl (by rw [xo.mg]; exact hm) (by rw [xo.K]; exact hk) (by rw [xo.K]; exact hb) (passAt tk) ia (sNe hd) s1 s2) fun σ H Q h => call_read hl h
/-! ### a call that is only lent its lists -/
theorem lend1 {G : Gx} {H S : Hp} (sub : Sub S H) {v : V} {d : Dv} (r : RepB G H S v d) : ∃ S2, Sub S S2 ∧ Sub S2 H ∧ RepS G S2 v d := by
  have up : ∀ {a : Addr} {o : HO}, H a = some o → Sub S (upd S a o) ∧ Sub (upd S a o) H := fun {a o} ha => by
    refine ⟨fun b u q => ?_, fun b u q => ?_⟩
    · by_cases e : b = a
      · subst e; rw [upd_same, ← sub _ _ q, ha]
      · rw [upd_ne e]; exact q
    · by_cases e : b = a
      · subst e; rw [upd_same] at q; rw [← q]; exact ha
      · rw [upd_ne e] at q; exact sub _ _ q
  cases d with
  | lst ds =>
    obtain ⟨a, xs, rfl, l, z, q⟩ := r
    rcases l with (l | ⟨o, l⟩) | l
    · obtain ⟨h1, h2⟩ := up l
      exact ⟨_, h1, h2, .lst (.inl (.inl upd_same)) z (q.mono h1)⟩
    · obtain ⟨h1, h2⟩ := up l
      exact ⟨_, h1, h2, .lst (.inl (.inr ⟨o, upd_same⟩)) z (q.mono h1)⟩
    · exact ⟨S, .refl S, sub, .lst (.inr l) z q⟩
  | obj C fs =>
    obtain ⟨a, dx, xs, rfl, l, c, q⟩ := r
    obtain ⟨h1, h2⟩ := up l
    exact ⟨_, h1, h2, .obj upd_same c (q.mono h1)⟩
  | dct kvs =>
    obtain ⟨a, kv, rfl, l, q⟩ := r
    obtain ⟨h1, h2⟩ := up l
    exact ⟨_, h1, h2, .dct upd_same (q.mono h1)⟩
  | _ => exact ⟨S, .refl S, sub, r⟩
theorem lendL {G : Gx} {H : Hp} : ∀ {ds : List Dv} {vs : List V} {S : Hp}, Sub S H → RepBs (G := G) H S vs ds → ∃ S2, Sub S S2 ∧ Sub S2 H ∧ RepL G S2 vs ds
  | [], [], S, sub, _ => ⟨S, .refl S, sub, .nil⟩
  | [], _ :: _, _, _, r => r.elim
  | _ :: _, [], _, _, r => r.elim
  | d :: ds, v :: vs, S, sub, r => by
    obtain ⟨S1, a1, b1, q1⟩ := lend1 sub r.1
    obtain ⟨S2, a2, b2, q2⟩ := lendL b1 (repBs_mono (.refl H) a1 r.2)
    exact ⟨S2, a1.trans a2, b2, .cons (q1.mono a2) q2⟩
theorem call_readB {f : Nat} {ms : Exs} {σ : L2.St} {H : Hp} {Q : VK} (hlen : ∀ (ds : List Dv), callI L.pg lv f ds ≠ .no → ds.length = (L.psF f).length) (h : tE L lv (.callB f ms) W σ H Q) : tCallS (spF L lv f) (WE W) (tAB L lv ms W) σ H Q := by
  obtain ⟨F, e, S, R, o⟩ := h
  rw [evalE] at o
  refine tAB.bind R (P := fun r => Out L.G W σ H S r Q) outX outN o fun ds vs H1 S1 _ g1 R1 rb o1 => ?_
  obtain ⟨S2, a2, b2, r1⟩ := lendL g1.sub rb
  have e1 := r1.len
  have o1 : Out L.G W σ H S ((callI L.pg lv f ds).bind scal) Q := o1
  have e2 := hlen ds fun q => by
    rw [q] at o1
    exact o1
  have fin : ∀ {H' S' : Hp}, Grow H1 S2 H' S' → Grow H S H' S1 := fun {H' S'} g => g1.trans ⟨g.h, .refl S1, a2.trans (g.s.trans g.sub), fun _ _ q => .inl q⟩
  refine ⟨S2, ds, b2, r1, by omega, ?_⟩
  cases q : callI L.pg lv f ds with
  | ok sv =>
    rw [q] at o1
    intro v H' S' g r
    have o1 : Out L.G W σ H S (scal sv) Q := o1
    unfold scal at o1
    split at o1
    · cases r; exact o1 _ H' S1 (fin g) (.bl _)
    · cases r; exact o1 _ H' S1 (fin g) (.int _)
    · cases r; exact o1 _ H' S1 (fin g) .non
    · exact o1.elim
  | ex C t =>
    rw [q] at o1
    intro H' S' g
    have z := o1 H' S1 (fin g)
    cases t with
    | none => exact z
    | some i => exact z
  | no => rw [q] at o1; exact o1.elim
theorem tAB_nil {σ : L2.St} {H : Hp} {Q : List V → Hp → Prop} (h : tAB L lv .nil W σ H Q) : tNil σ H Q := by
  obtain ⟨F, e, S, R, o⟩ := h
  rw [evalBs] at o
  exact o [] H S (.refl R.sub) trivial
theorem e_callB (tk : Takes X W) (co : CallsOk L lv) (xo : XOk L lv se X) {n f : Nat} {x : Str} {p pos : Pos} {es : List Expr} {ms : Exs} (hx : gloOf se x = some (.own (.fn f))) (hd : sEq x "__debug__" = false) (hes : cEs n se es = some ms)
    (ia : PA X es (tAB L lv ms W)) : PE X (.Call (.Name x p) es [] pos) (tE L lv (.callB f ms) W) := by
  obtain ⟨gl, lk⟩ := glo_own xo hx
  obtain ⟨hm, hk, hb, hln, F⟩ := co.fn x f lk
  have hl : ∀ ds : List Dv, callI L.pg lv f ds ≠ .no → ds.length = (L.psF f).length := hln
  cases es with
  | nil =>
    cases nil_ms hes
    refine PE.imp (pe_call0S (E := WE W) (fn_at xo F) (xo.room.mono (by omega)) gl (by rw [xo.mg]; exact hm) (by rw [xo.K]; exact hk) (by rw [xo.K]; exact hb) (passAt tk) (sNe hd)) fun σ H Q h => ?_
    exact tAB_nil (call_readB hl h)
  | cons e es =>
    obtain ⟨s1, s2⟩ := args_star hes X.env pos
    exact PE.imp (pe_callS (E := WE W) (fn_at xo F) (xo.room.mono (by omega)) gl (by rw [xo.mg]; exact hm) (by rw [xo.K]; exact hk) (by rw [xo.K]; exact hb) (passAt tk) ia (sNe hd) s1 s2) fun σ H Q h => call_readB hl h
/-! ### a new object -/
theorem make_read {C : Nat} {f : Nat} {ms : Exs} {σ : L2.St} {H : Hp} {Q : VK} (hC : C ∈ L.G.cs) (hlen : ∀ (ds : List Dv), makeI L.pg lv C ds ≠ .no → ds.length + 1 = (L.psF f).length) (h : tE L lv (.make C ms) W σ H Q) :
    tMakeS (L.G.cA C) (spM L lv C f) (WE W) (tA L lv ms W) σ H Q := by
  obtain ⟨F, e, S, R, o⟩ := h
  rw [evalE] at o
  refine tA.bind R (P := fun r => Out L.G W σ H S r Q) outX outN o fun ds vs H1 S1 _ g1 R1 r1 o1 => ?_
  intro x dx hx hdx hne
  have o1 : Out L.G W σ H S ((makeI L.pg lv C ds).bind fun d => .ok (.sh d)) Q := o1
  have e1 := r1.len
  have e2 := hlen ds fun q => by
    rw [q] at o1
    exact o1
  have sub1 := g1.sub
  have nx := sub1.none hx
  have ndx := sub1.none hdx
  refine ⟨S1, x, dx, vs, ds, rfl, ?_, nx, upd_same, r1, by rw [List.length_cons]; omega, ?_⟩
  · exact sub1.trans ((Sub.new hdx).trans (Sub.new (by rw [upd_ne (Ne.symm hne)]; exact hx)))
  · have old : ∀ {H' S' : Hp}, GrowM x (upd (upd H1 dx (.own x)) x (.ins (L.G.cA C) dx [])) S1 H' S' → Grow H1 S1 H' S' := fun {H' S'} g => by
      refine ⟨fun a o q => ?_, g.s, g.sub, fun a o q => ?_⟩
      · have n1 : a ≠ x := ne_of_none q hx
        refine g.h a o n1 ?_
        rw [upd_ne n1, upd_ne (ne_of_none q hdx)]
        exact q
      · rcases g.new a o q with z | ⟨z, pl⟩
        · exact .inl z
        · refine .inr ⟨?_, pl⟩
          by_cases n1 : a = x
          · rw [n1]; exact hx
          · rw [upd_ne n1] at z
            by_cases n2 : a = dx
            · rw [n2]; exact hdx
            · rw [upd_ne n2] at z; exact z
    cases q : makeI L.pg lv C ds with
    | ok d =>
      rw [q] at o1
      intro H' S' fs dx' hd g hs ⟨xs, hx', rf⟩
      refine ⟨rfl, ?_⟩
      have g2 := g1.trans (old g)
      subst hd
      have o1 : Out L.G W σ H S (.ok (.sh (.obj C fs))) Q := o1
      refine o1 _ _ (upd S' x (.ins (L.G.cA C) dx' xs)) ⟨g2.h, g2.s.trans (.new hs), fun a o k => ?_, fun a o k => ?_⟩ (.obj upd_same hC (rf.mono (.new hs)))
      · by_cases n1 : a = x
        · subst n1; rw [upd_same] at k; rw [← k]; exact hx'
        · rw [upd_ne n1] at k; exact g.sub _ _ k
      · by_cases n1 : a = x
        · subst n1; rw [upd_same] at k; cases k; exact .inr ⟨g1.h.none hx, fun _ _ h => by cases h⟩
        · rw [upd_ne n1] at k; exact g2.new _ _ k
    | ex D t =>
      rw [q] at o1
      intro H' S' g
      have z : ExW L.G W σ H' D t := o1 H' S' (g1.trans (old g))
      cases t with
      | none => exact z
      | some i => exact z
    | no => rw [q] at o1; exact o1.elim
theorem e_make (tk : Takes X W) (co : CallsOk L lv) (xo : XOk L lv se X) {n C : Nat} {x : Str} {p pos : Pos} {es : List Expr} {ms : Exs} (hx : gloOf se x = some (.own (.cls C))) (hd : sEq x "__debug__" = false) (hes : cEs n se es = some ms)
    (ia : PA X es (tA L lv ms W)) : PE X (.Call (.Name x p) es [] pos) (tE L lv (.make C ms) W) := by
  obtain ⟨gl, lk⟩ := glo_own xo hx
  obtain ⟨hC, f, hm, hk, hb, hln, F⟩ := co.cls x C lk
  have hk' : Mk X.K (L.G.cA C) (L.aF f) := by rw [xo.K]; exact hk
  cases es with
  | nil =>
    cases nil_ms hes
    refine PE.imp (pe_make0S (E := WE W) hk' (fn_at xo F) (xo.room.mono (by omega)) gl (by rw [xo.mg]; exact hm) (by rw [xo.K]; exact hb) (passAt tk) (sNe hd)) fun σ H Q h => ?_
    exact tA_nil (make_read hC hln h)
  | cons e es =>
    obtain ⟨s1, s2⟩ := args_star hes X.env pos
    exact PE.imp (pe_makeS (E := WE W) hk' (fn_at xo F) (xo.room.mono (by omega)) gl (by rw [xo.mg]; exact hm) (by rw [xo.K]; exact hb) (passAt tk) ia (sNe hd) s1 s2) fun σ H Q h => make_read hC hln h
/-! ### methods -/
theorem meth_read {C f : Nat} {m : Str} {ma : Ex} {ms : Exs} {σ : L2.St} {H : Hp} {Q : VK} (hm : m ∉ L.G.fl) (hlen : ∀ (ds : List Dv), callI L.pg lv f ds ≠ .no → ds.length = (L.psF f).length) (h : tE L lv (.meth C f ma ms) W σ H Q) :
    tMethS (L.G.cA C) m (spF L lv f) (WE W) (tE L lv ma W) (tA L lv ms W) σ H Q := by
  obtain ⟨F, e, S, R, o⟩ := h
  rw [evalE] at o
  refine tE.bind R (P := fun r => Out L.G W σ H S r Q) outX outN o fun sx v H1 S1 g1 R1 r1 o1 => ?_
  split at o1
  · rename_i D fs
    split at o1
    · rename_i hD
      subst hD
      cases r1 with
      | obj a1 a2 a3 =>
        rename_i a dx xs
        refine ⟨a, dx, xs, rfl, R1.sub _ _ a1, lookup_out fun p hp e => hm (e ▸ repF_keys a3 p hp), ?_⟩
        refine tA.bind R1 (P := fun r => Out L.G W σ H S r Q) (fun C t h H2 S2 g => outX C t h H2 S2 (g1.trans g)) outN o1 fun ds vs H2 S2 _ g2 R2 r2 o2 => ?_
        have e1 := r2.len
        have e2 := hlen (.obj D fs :: ds) fun q => by
          have o2 : Out L.G W σ H S (callI L.pg lv f (.obj D fs :: ds)) Q := o2
          rw [q] at o2
          exact o2
        rw [List.length_cons] at e2
        refine spF_of (g1.trans g2) (.cons (RepS.obj (g2.s _ _ a1) a2 (a3.mono g2.s)) r2) (by rw [List.length_cons]; omega) o2
    · exact o1.elim
  · exact o1.elim
theorem all_not {α : Type} : ∀ {l : List (Bool × α)}, l.any (·.1) = false → l.all (!·.1) = true
  | [], _ => rfl
  | (b, a) :: r, h => by
    have h : (b || r.any (·.1)) = false := h
    show (!b && r.all (!·.1)) = true
    cases b with
    | true => cases h
    | false => rw [all_not h]; rfl
theorem meth_eval {o : Expr} {m : Str} {ap pos : Pos} {n : Nat} {es : List Expr} {ms : Exs} (hb : bareCall o = false) (hl : Nat.beq ap.endLine pos.line = true) (hn : Nat.blt es.length 30 = true) (hes : cEs n se es = some ms) (env : PySem.Env) :
    eval (.Call (.Attribute o m ap) es [] pos) env = (do
      let ov ← eval o env
      standAt ap.atName
      let (f, first) ← holding [ov] (getMethod ov m (plainOf o env))
      callWith pos f first (backTo pos (starEach es env)) (backToKw pos (keywordEach [] env))) := by
  refine mcall_of (base_of hb m env _) fun ov => ?_
  refine mcall_line ?_ (by rw [beq_iff_eq]; exact Nat.eq_of_beq_eq_true hl)
  unfold methodCallForm
  have h1 := all_not (nostar (n := n) (env := env) (pos := pos) hes)
  have h2 : es.length < 30 := by
    have := Nat.ble_eq.mp hn
    omega
  rw [h1]
  have h3 : backToKw pos (keywordEach [] env) = [] := rfl
  rw [h3]
  simpa using h2
theorem e_meth (tk : Takes X W) (co : CallsOk L lv) (xo : XOk L lv se X) {n C f : Nat} {m : Str} {o : Expr} {ma : Ex} {ap pos : Pos} {es : List Expr} {ms : Exs} (hx : lkS m se.mt = some (C, f)) (hb : bareCall o = false) (hl : Nat.beq ap.endLine pos.line = true) (hn : Nat.blt es.length 30 = true)
    (hes : cEs n se es = some ms) (io : PE X o (tE L lv ma W)) (ia : PA X es (tA L lv ms W)) : PE X (.Call (.Attribute o m ap) es [] pos) (tE L lv (.meth C f ma ms) W) := by
  rw [xo.mt] at hx
  obtain ⟨c, hm, hbb, hfl, hln, F⟩ := co.meth m C f hx
  have c' : Cls X.K (L.G.cA C) := by rw [xo.K]; exact c
  have hm' : Meth X.K (L.G.cA C) m (L.aF f) := by rw [xo.K]; exact hm
  cases es with
  | nil =>
    cases nil_ms hes
    refine PE.imp (pe_meth0S (E := WE W) io c' hm' (fn_at xo F) (xo.room.mono (by omega)) (by rw [xo.K]; exact hbb) (passAt tk) (meth_eval hb hl hn hes X.env)) fun σ H Q h => ?_
    obtain ⟨F, e, S, R, o⟩ := meth_read hfl hln h
    refine ⟨F, e, S, R, ?_⟩
    cases q : evalE (clI L.pg lv) ma e with
    | ok sv =>
      rw [q] at o
      intro v H1 S1 g r
      obtain ⟨a, dx, fs, e1, e2, e3, t⟩ := o v H1 S1 g r
      exact ⟨a, dx, fs, e1, e2, e3, tA_nil t⟩
    | ex C t => rw [q] at o; exact o
    | no => rw [q] at o; exact o
  | cons e es =>
    obtain ⟨s1, s2⟩ := args_star hes X.env pos
    exact PE.imp (pe_methS (E := WE W) io c' hm' (fn_at xo F) (xo.room.mono (by omega)) (by rw [xo.K]; exact hbb) (passAt tk) ia s1 s2 (meth_eval hb hl hn hes X.env)) fun σ H Q h => meth_read hfl hln h
end
end Dg

/-! The evaluator is sound: built-in functions, isinstance. -/
namespace Dg
open PySem PySem.Spec L2
section
variable {L : Lk} {lv : Nat} {se : SE} {X : Cx} {W : WX}
/-! ### chains -/
theorem marks2 {n : Nat} {b c : Expr} {mb mc : Ex} (hb : cE n se b = some mb) (hc : cE n se c = some mc) (op op' : CmpOp) : lastMarks [op, op'] [b, c] = false := nobehindX hc op'
theorem e_cmp2 (xo : XOk L lv se X) {n : Nat} {a b c : Expr} {ma mb mc : Ex} {op op' : CmpOp} {pos : Pos} (hb : cE n se b = some mb) (hc : cE n se c = some mc) (ia : PE X a (tE L lv ma W)) (ib : PE X b (tE L lv mb W)) (ic : PE X c (tE L lv mc W)) :
    PE X (.Compare a [op, op'] [b, c] pos) (tE L lv (.cmp2 op op' ma mb mc) W) :=
  PE.imp (pe_chain (op_cmp (by have := hu_X xo; omega) op) (op_cmp (by have := hu_X xo; omega) op') ia ib ic (marks2 hb hc op op')) fun σ H Q h => cmp2_read xo h
theorem t_cmp2 (xo : XOk L lv se X) {n : Nat} {a b c : Expr} {ma mb mc : Ex} {op op' : CmpOp} {pos : Pos} (hb : cE n se b = some mb) (hc : cE n se c = some mc) (ia : PE X a (tE L lv ma W)) (ib : PE X b (tE L lv mb W)) (ic : PE X c (tE L lv mc W)) :
    PT X (.Compare a [op, op'] [b, c] pos) (tT L lv (.cmp2 op op' ma mb mc) W) :=
  PT.imp (pt_chain (op_cmp (by have := hu_X xo; omega) op) (op_cmp (by have := hu_X xo; omega) op') ia ib ic (marks2 hb hc op op')) fun σ H Q h => cmp2_read xo (tT_B h)
/-! ### built-in functions -/
theorem blt_tab : ∀ p ∈ bltT, p.1 ∈ bltNames ∧ p.2.1 ≠ 0 ∧ p.1 ≠ "__name__" ∧ (p.1 == ("__debug__" : Str)) = false ∧ bootBuiltins p.1 = some (biV p.2.2) := by decide +kernel
theorem blt_cases {x : Str} {n : Nat} {id : Bi} (h : bltOf x n = some id) : x ∈ bltNames ∧ n ≠ 0 ∧ x ≠ "__name__" ∧ (x == ("__debug__" : Str)) = false ∧ bootBuiltins x = some (biV id) := by
  unfold bltOf at h
  split at h
  · rename_i p hp
    cases h
    have h1 := List.mem_of_find?_eq_some hp
    have h2 := List.find?_some hp
    obtain ⟨h3, h4⟩ := Bool.and_eq_true_iff.mp h2
    have h3 := (sEq_iff _ _).mp h3
    have h4 := Nat.eq_of_beq_eq_true h4
    rw [h3, h4]
    exact blt_tab p h1
  · cases h
theorem e_bc (co : CallsOk L lv) (xo : XOk L lv se X) {n k : Nat} {x : Str} {p pos : Pos} {es : List Expr} {ms : Exs} {id : Bi} (hx : gloOf se x = some .blt) (hb : bltOf x es.length = some id) (hes : cEs n se es = some ms)
    (ia : PA X es (tAB L lv ms W)) : PE X (.Call (.Name x p) es [] pos) (tE L lv (.bc id ms) W) := by
  obtain ⟨h1, h2, h3, h4, h5⟩ := blt_cases hb
  obtain ⟨gl, _⟩ := glo_blt xo hx
  have hm := blt_none co xo hx h1
  cases es with
  | nil => exact absurd rfl h2
  | cons e es =>
    obtain ⟨s1, s2⟩ := args_star hes X.env pos
    have key : PE X (.Call (.Name x p) (e :: es) [] pos) (tCB (rBi X.K id) (tAB L lv ms W)) := by
      have cr := cr_bi xo.calm (hu_X xo) id
      cases id <;> first
        | exact pe_callB cr gl hm h5 ia h3 h4 s1 s2
        | exact pe_callTy cr gl hm h5 ia h3 h4 s1 s2
    refine PE.imp key fun σ H Q ⟨F, e, S, R, o⟩ => ?_
    rw [xo.K]
    rw [evalE] at o
    refine tAB.bind R (P := fun r => Out L.G W σ H S r Q) outX outN o fun ds vs H1 S1 _ g1 R1 r1 o1 => ?_
    exact bi_ok R1.sub r1 (Out.later g1 o1)
/-! ### isinstance -/
def tyV : Ty → String
  | .int => "int"
  | .bool => "bool"
  | .str => "str"
  | .tuple => "tuple"
  | .list => "list"
def tyN : Dv → Option String
  | .int _ => some "int"
  | .bl _ => some "bool"
  | .str _ => some "str"
  | .tup _ => some "tuple"
  | .lst _ => some "list"
  | .non => some "NoneType"
  | _ => none
theorem ty_sql {K : PySem.W.Frag} {H : Hp} {a : Addr} {xs : List V} (h : SqL K H a xs) : TyX K H (.ref a) (.type "list") := by
  rcases h with (h | ⟨o, h⟩) | ⟨o, its, n, h1, h2, _⟩
  · exact .base (.lst h)
  · exact .base (.frz h)
  · exact .kList h1 h2
theorem ty_sqt {K : PySem.W.Frag} {H : Hp} {a : Addr} {xs : List V} (h : SqT K H a xs) : TyX K H (.ref a) (.type "tuple") := by
  rcases h with (h | ⟨o, h⟩) | ⟨o, its, n, h1, h2, _⟩
  · exact .base (.tup h)
  · exact .fTuple h
  · exact .kTuple h1 h2
theorem ty_rep {G : Gx} {H S : Hp} (sub : Sub S H) {v : V} {d : Dv} {n : String} (r : RepB G H S v d) (h : tyN d = some n) : TyX G.K H v (.type n) := by
  unfold tyN at h
  split at h
  · cases h; cases r; exact .base (.int _)
  · cases h; cases r; exact .base (.bl _)
  · cases h; cases r; exact .base (.str _)
  · cases h
    cases r with
    | tup a b c => exact ty_sqt (sub.sqT a)
  · cases h
    obtain ⟨a, xs, rfl, l, _⟩ := r
    exact ty_sql l
  · cases h; cases r; exact .base .non
  · cases h
theorem ty_kit {T : Ty} {d : Dv} {b : Bool} (h : tyIs T d = .ok b) : ∃ n, tyN d = some n ∧ kitB n (tyV T) = some b := by
  unfold tyIs at h
  split at h <;> first
    | (cases h; exact ⟨_, rfl, by decide +kernel⟩)
    | cases h
theorem tyOf_ok {y : Str} {T : Ty} (h : tyOf y = some T) : y ∈ bltNames ∧ y ≠ "__name__" ∧ (y == ("__debug__" : Str)) = false ∧ bootBuiltins y = some (.type (tyV T)) := by
  unfold tyOf at h
  split at h
  · rename_i e; cases h; rw [sEqs e]; decide +kernel
  · split at h
    · rename_i e; cases h; rw [sEqs e]; decide +kernel
    · split at h
      · rename_i e; cases h; rw [sEqs e]; decide +kernel
      · split at h
        · rename_i e; cases h; rw [sEqs e]; decide +kernel
        · split at h
          · rename_i e; cases h; rw [sEqs e]; decide +kernel
          · cases h
theorem isi_name : ("isinstance" : Str) ∈ bltNames ∧ ("isinstance" : Str) ≠ "__name__" ∧ (("isinstance" : Str) == ("__debug__" : Str)) = false ∧ bootBuiltins ("isinstance" : Str) = some (.builtin "isinstance") := by decide +kernel
theorem e_isty (co : CallsOk L lv) (xo : XOk L lv se X) {n : Nat} {y : Str} {a : Expr} {ma : Ex} {T : Ty} {p q pos : Pos} (hx : gloOf se "isinstance" = some .blt) (hy : gloOf se y = some .blt) (hT : tyOf y = some T) (ha : cE n se a = some ma) (ia : PE X a (tE L lv ma W)) :
    PE X (.Call (.Name "isinstance" p) [a, .Name y q] [] pos) (tE L lv (.isty ma T) W) := by
  obtain ⟨k1, k2, k3, k4⟩ := isi_name
  obtain ⟨l1, l2, l3, l4⟩ := tyOf_ok hT
  obtain ⟨gi, _⟩ := glo_blt xo hx
  obtain ⟨gy, _⟩ := glo_blt xo hy
  have s1 := star_of ha [.Name y q] X.env
  have pn : PE X (.Name y q) (tC (.ty (tyV T))) := pe_bltn gy (blt_none co xo hy l1) l4 rfl l2 l3
  refine PE.imp (pe_callB call_isi gi (blt_none co xo hx k1) k4 (pa_cons ia (pa_cons pn pa_nil rfl) s1) k2 k3 s1 rfl) fun σ H Q ⟨F, e, S, R, o⟩ => ?_
  rw [xo.K]
  rw [evalE] at o
  refine tE.bind R (P := fun r => Out L.G W σ H S r Q) outX outN o fun sx v H1 S1 g1 R1 r1 o1 => ?_
  cases hk : tyIs T sx.toD with
  | ok b =>
    have o1 : Out L.G W σ H S ((tyIs T sx.toD).bind fun k => .ok (.sh (.bl k))) Q := o1
    rw [hk] at o1
    obtain ⟨nm, e1, e2⟩ := ty_kit hk
    exact ⟨v, .ty (tyV T), _, _, b, rfl, .ty _, ty_rep R1.sub (r1.b R1.sub) e1, kit_ty e2, (Out.later g1 o1).ok0 R1.sub (.bl _)⟩
  | ex C t =>
    unfold tyIs at hk
    split at hk <;> cases hk
  | no =>
    have o1 : Out L.G W σ H S ((tyIs T sx.toD).bind fun k => .ok (.sh (.bl k))) Q := o1
    rw [hk] at o1
    exact o1.elim
/-! ### isinstance of a caught exception -/
def rIsX (K : PySem.W.Frag) : RCl := fun xs H Q => ∃ (a D : Addr) (c : V) (cv : Value) (b : Bool), xs = [.ref a, c] ∧ H a = some (ExT (.ref D) none a) ∧ ExcC K D ∧ (∀ u, RelV c u → u = cv) ∧ PySem.W.kitOne K (.ref D) cv = some b ∧ Q (.bl b) H
theorem call_isX : CallR X (.builtin "isinstance") (rIsX X.K) := by
  intro pins s σ H xs us Q I r h
  obtain ⟨a, D, c, cv, b, rfl, hx, C, hcv, e, q⟩ := h
  cases r with
  | cons rx rr =>
    cases rr with
    | cons rt rr =>
      cases rr
      cases rx
      have ec := hcv _ rt
      subst ec
      obtain ⟨⟨oe, vs, hget, hz, hv⟩, _⟩ := I.hok a _ hx
      have J : PySem.W.InstAt s.heap a oe D none := by
        obtain ⟨oc, od, oda, osl⟩ := oe
        obtain ⟨h1, h2⟩ := hz
        dsimp only at h1 h2 hv
        subst h1 h2 hv
        exact ⟨hget, rfl, rfl, trivial⟩
      exact PySem.W.kia_one (PySem.W.handS_kitx_exc C.hg C.hk C.hs C.hd C.ha C.hn C.ht C.hm) I.kIn J e (fun z => nomatch z) fun tk => ⟨.bl b, H, I.kept (t' := tk) fun _ _ z => z, rfl, q⟩
end
end Dg

/-! The evaluator is sound: targets, iterators, comprehensions. -/
namespace Dg
open PySem PySem.Spec L2
section
variable {L : Lk} {lv : Nat} {se : SE} {X : Cx} {W : WX}
/-! ### isinstance of an exception -/
theorem e_isa0 (co : CallsOk L lv) (xo : XOk L lv se X) {n : Nat} {a c : Expr} {ma mb : Ex} {f : Nat → Rs Bool} {cv : V} {cu : Value} {p pos : Pos} (hx : gloOf se "isinstance" = some .blt) (ha : cE n se a = some ma) (ia : PE X a (tE L lv ma W)) (ic : PE X c (tC cv)) (hs : starEach [c] X.env = (false, eval c X.env) :: starEach [] X.env)
    (hcv : ∀ u, RelV cv u → u = cu) (hm : ∀ e, evalE (clI L.pg lv) mb e = (evalE (clI L.pg lv) ma e).bind fun x => match x.toD with
      | .exc D _ => (f D).bind fun k => .ok (.sh (.bl k))
      | _ => .no)
    (hk : ∀ D b, f D = .ok b → ExcC L.G.K (L.G.cA D) ∧ PySem.W.kitOne L.G.K (.ref (L.G.cA D)) cu = some b) (hne : ∀ D C t, f D ≠ .ex C t) :
    PE X (.Call (.Name "isinstance" p) [a, c] [] pos) (tE L lv mb W) := by
  obtain ⟨k1, k2, k3, k4⟩ := isi_name
  obtain ⟨gi, _⟩ := glo_blt xo hx
  have s1 := star_of ha [c] X.env
  refine PE.imp (pe_callB call_isX gi (blt_none co xo hx k1) k4 (pa_cons ia (pa_cons ic pa_nil hs) s1) k2 k3 s1 (by rw [hs]; rfl)) fun σ H Q ⟨F, e, S, R, o⟩ => ?_
  rw [xo.K]
  rw [hm] at o
  refine tE.bind R (P := fun r => Out L.G W σ H S r Q) outX outN o fun sx v H1 S1 g1 R1 r1 o1 => ?_
  split at o1
  · rename_i D t hd
    have q := r1.b R1.sub
    rw [hd] at q
    cases hf : f D with
    | ok b =>
      rw [hf] at o1
      obtain ⟨c1, c2⟩ := hk D b hf
      cases q with
      | exc ha => exact ⟨_, L.G.cA D, cv, cu, b, rfl, R1.sub _ _ ha, c1, hcv, c2, (Out.later g1 o1).ok0 R1.sub (.bl _)⟩
    | ex C t => exact absurd hf (hne D C t)
    | no => rw [hf] at o1; exact o1.elim
  · exact o1.elim
theorem e_isa (co : CallsOk L lv) (xo : XOk L lv se X) {n C : Nat} {y : Str} {a : Expr} {ma : Ex} {p q pos : Pos} (hx : gloOf se "isinstance" = some .blt) (hy : gloOf se y = some (.own (.exc C))) (hd : sEq y "__debug__" = false) (ha : cE n se a = some ma) (ia : PE X a (tE L lv ma W)) :
    PE X (.Call (.Name "isinstance" p) [a, .Name y q] [] pos) (tE L lv (.isa ma C) W) := by
  obtain ⟨gy, ly⟩ := glo_own xo hy
  have E := co.exc y C ly
  refine e_isa0 (f := fun D => ofO ((clI L.pg lv).sub D C)) co xo hx ha ia (pe_glob (v := .ref (L.G.cA C)) gy (by rw [xo.mg]; exact E) rfl (sNe hd)) rfl (fun u r => r) (fun e => by first | (rw [evalE]; rfl) | rw [evalE]) (fun D b h => ?_) fun D C' t h => ?_
  · obtain ⟨c1, c2, _⟩ := co.sub D C b (ofO_ok h)
    exact ⟨c1, c2⟩
  · cases q : (clI L.pg lv).sub D C <;> rw [q] at h <;> cases h
theorem aux_true (r : Rs Bool) : (r.bind fun _ => Rs.ok (Sv.sh (Dv.bl true))) = (r.bind fun _ => Rs.ok true).bind fun k => Rs.ok (Sv.sh (Dv.bl k)) := by cases r <;> rfl
theorem e_isv (co : CallsOk L lv) (xo : XOk L lv se X) {n : Nat} {a : Expr} {ma : Ex} {p q pos : Pos} (hx : gloOf se "isinstance" = some .blt) (hy : gloOf se "ValueError" = some .blt) (ha : cE n se a = some ma) (ia : PE X a (tE L lv ma W)) :
    PE X (.Call (.Name "isinstance" p) [a, .Name "ValueError" q] [] pos) (tE L lv (.isv ma) W) := by
  obtain ⟨gy, _⟩ := glo_blt xo hy
  have v1 : ("ValueError" : Str) ∈ bltNames ∧ ("ValueError" : Str) ≠ "__name__" ∧ (("ValueError" : Str) == ("__debug__" : Str)) = false ∧ bootBuiltins ("ValueError" : Str) = some (.type "ValueError") := by decide +kernel
  obtain ⟨l1, l2, l3, l4⟩ := v1
  refine e_isa0 (f := fun D => (ofO ((clI L.pg lv).sub D D)).bind fun _ => .ok true) co xo hx ha ia (pe_bltn (v := .ty "ValueError") gy (blt_none co xo hy l1) l4 rfl l2 l3) rfl (fun u r => r) (fun e => by
    rw [evalE]
    congr 1
    funext x
    cases x.toD <;> try rfl
    rename_i D t
    exact aux_true _) (fun D b h => ?_) fun D C' t h => ?_
  · cases q : (clI L.pg lv).sub D D with
    | none => rw [q] at h; cases h
    | some k =>
      rw [q] at h
      cases h
      obtain ⟨c1, _, c3, _⟩ := co.sub D D k q
      exact ⟨c1, c3⟩
  · cases q : (clI L.pg lv).sub D D <;> rw [q] at h <;> cases h
theorem e_isc (co : CallsOk L lv) (xo : XOk L lv se X) {n C : Nat} {y : Str} {a : Expr} {ma : Ex} {p q pos : Pos} (hx : gloOf se "isinstance" = some .blt) (hy : gloOf se y = some (.own (.cls C))) (hd : sEq y "__debug__" = false) (ha : cE n se a = some ma) (ia : PE X a (tE L lv ma W)) :
    PE X (.Call (.Name "isinstance" p) [a, .Name y q] [] pos) (tE L lv (.isc ma C) W) := by
  obtain ⟨k1, k2, k3, k4⟩ := isi_name
  obtain ⟨gi, _⟩ := glo_blt xo hx
  obtain ⟨gy, ly⟩ := glo_own xo hy
  obtain ⟨hC, f, hm, _⟩ := co.cls y C ly
  obtain ⟨i1, i2, i3, i4, i5⟩ := co.isc C hC
  have s1 := star_of ha [.Name y q] X.env
  have pn : PE X (.Name y q) (tC (.ref (L.G.cA C))) := pe_glob gy (by rw [xo.mg]; exact hm) rfl (sNe hd)
  refine PE.imp (pe_callB call_isi gi (blt_none co xo hx k1) k4 (pa_cons ia (pa_cons pn pa_nil rfl) s1) k2 k3 s1 rfl) fun σ H Q ⟨F, e, S, R, o⟩ => ?_
  rw [xo.K]
  rw [evalE] at o
  refine tE.bind R (P := fun r => Out L.G W σ H S r Q) outX outN o fun sx v H1 S1 g1 R1 r1 o1 => ?_
  have q := r1.b R1.sub
  split at o1
  · rename_i D fs hd
    split at o1
    · rename_i hD
      subst hD
      rw [hd] at q
      obtain ⟨a, dx, xs, rfl, hH, hc, _⟩ := q
      exact ⟨.ref a, .ref (L.G.cA D), .ref (L.G.cA D), .ref (L.G.cA D), true, rfl, .own _, .base (.ins hH (co.fld D hC).1 i1 i2 i3 i4), by unfold PySem.W.kitOne; rw [if_pos (beq_self_eq_true _)], (Out.later g1 o1).ok0 R1.sub (.bl _)⟩
    · exact o1.elim
  · rename_i hd
    rw [hd] at q
    cases q
    exact ⟨.non, .ref (L.G.cA C), .type "NoneType", .ref (L.G.cA C), false, rfl, .own _, .base .non, i5, (Out.later g1 o1).ok0 R1.sub (.bl _)⟩
  · exact o1.elim
/-! ### targets -/
def gIs : List Nat → TGs
  | [] => gNil
  | i :: is => gCons (gName i) (gIs is)
def gT (K : PySem.W.Frag) : Tg → TG
  | .nm i _ => gName i
  | .tp is => fun v σ H Q => gTup K is.length (gIs is) v σ H Q ∨ gLst K is.length (gIs is) v σ H Q
theorem PG.or {tg : Expr} {t t' : TG} (h : PG X tg t) (h' : PG X tg t') : PG X tg (fun v σ H Q => t v σ H Q ∨ t' v σ H Q) := ⟨fun pins s σ H v u Q I r q => by
  rcases q with q | q
  · exact h.run pins s σ H v u Q I r q
  · exact h'.run pins s σ H v u Q I r q⟩
theorem sto_of {x : Str} {i : Nat} (hN : X.N = se.N) (hs : X.env.scope = se.sc) (h : stoOf se x = some i) : X.N[i]? = some x ∧ Loc X.env.scope x := by
  unfold stoOf at h
  rw [hN, hs]
  split at h
  · rename_i e; exact ⟨ixOf_get h, .inl (by rw [← lkS_eq]; exact e)⟩
  · rename_i e; exact ⟨ixOf_get h, .inr (by rw [← lkS_eq]; exact e)⟩
  · cases h
/-- names that may be stored to -/
def Stores (X : Cx) (se : SE) : Prop := ∀ x i, stoOf se x = some i → X.N[i]? = some x ∧ Loc X.env.scope x ∧ (X.fn x = true ∨ X.env.scope.names.lookup x = some .local)
theorem pgs_names (hN : X.N.Nodup) (hs : Stores X se) : ∀ {es : List Expr} {is : List Nat}, namesOf se es = some is → PGs X es (gIs is) ∧ (assignEach es X.env).length = is.length ∧ (assignEach es X.env).findIdx? (·.1) = none
  | [], is, h => by
    unfold namesOf at h
    cases h
    exact ⟨pgs_nil, rfl, rfl⟩
  | e :: es, is, h => by
    unfold namesOf at h
    split at h
    · rename_i h1; cases h1
    · rename_i x q r heq
      cases heq
      cases h1 : stoOf se x with
      | none => rw [h1] at h; cases h
      | some i =>
        cases h2 : namesOf se es with
        | none => rw [h1, h2] at h; cases h
        | some l =>
          rw [h1, h2] at h
          cases h
          obtain ⟨p1, p2, p3⟩ := pgs_names hN hs h2
          obtain ⟨q1, q2, q3⟩ := hs x i h1
          have ea : assignEach (.Name x q :: es) X.env = (false, assign (.Name x q) X.env) :: assignEach es X.env := rfl
          refine ⟨pgs_cons (pg_name hN q1 q2 q3) p1 rfl, ?_, ?_⟩
          · rw [ea, List.length_cons, List.length_cons, p2]
          · rw [ea, List.findIdx?_cons, p3]
            rfl
    · cases h
theorem pg_of (hc : X.calm = true) (hN : X.N.Nodup) (hs : Stores X se) {k : Bool} {tg : Expr} {t : Tg} (h : cTg se k tg = some t) : PG X tg (gT X.K t) := by
  unfold cTg at h
  split at h
  · rename_i x p
    cases h1 : stoOf se x with
    | none => rw [h1] at h; cases h
    | some i =>
      rw [h1] at h
      cases h
      obtain ⟨q1, q2, q3⟩ := hs x i h1
      exact pg_name hN q1 q2 q3
  · rename_i es kk p
    cases h1 : namesOf se es with
    | none => rw [h1] at h; cases h
    | some l =>
      rw [h1] at h
      cases h
      obtain ⟨p1, p2, p3⟩ := pgs_names hN hs h1
      exact PG.or (pg_tup hc p1 p2 p3) (pg_lst hc p1 p2 p3)
  · cases h
/-! ### the slots of a target -/
/-- the same slots but these -/
def Same (own : List Nat) (σ σ' : St) : Prop := σ'.length = σ.length ∧ ∀ j : Nat, j ∉ own → σ'[j]? = σ[j]?
theorem wipe_in : ∀ {is : List Nat} {σ : St} {j : Nat}, j ∈ is → j < σ.length → (wipe σ is)[j]? = some none
  | i :: is, σ, j, h, hl => by
    unfold wipe
    by_cases e : i = j
    · subst e
      rw [List.getElem?_set_self (by rw [wipe_length]; exact hl)]
    · rw [List.getElem?_set_ne e]
      exact wipe_in (by rcases List.mem_cons.mp h with h | h; exact absurd h.symm e; exact h) hl
theorem wipe_out : ∀ {is : List Nat} {σ : St} {j : Nat}, j ∉ is → (wipe σ is)[j]? = σ[j]?
  | [], σ, j, h => rfl
  | i :: is, σ, j, h => by
    unfold wipe
    rw [List.getElem?_set_ne (fun e => h (by rw [e]; exact List.mem_cons_self))]
    exact wipe_out fun e => h (List.mem_cons_of_mem _ e)
theorem wipe_same {own : List Nat} {σ σ' : St} (h : Same own σ σ') : wipe σ' own = wipe σ own := by
  refine List.ext_getElem? fun j => ?_
  by_cases hj : j ∈ own
  · by_cases hl : j < σ.length
    · rw [wipe_in hj hl, wipe_in hj (by rw [h.1]; exact hl)]
    · rw [List.getElem?_eq_none (by rw [wipe_length, h.1]; omega), List.getElem?_eq_none (by rw [wipe_length]; omega)]
  · rw [wipe_out hj, wipe_out hj, h.2 j hj]
theorem Same.refl {own : List Nat} {σ : St} : Same own σ σ := ⟨rfl, fun _ _ => rfl⟩
theorem Same.set {own : List Nat} {σ σ' : St} (h : Same own σ σ') {i : Nat} {v : Option V} (hi : i ∈ own) : Same own σ (σ'.set i v) := ⟨by rw [List.length_set]; exact h.1, fun j hj => by
  have ne : i ≠ j := fun e => hj (by rw [← e]; exact hi)
  rw [List.getElem?_set_ne ne]
  exact h.2 j hj⟩
theorem wipe_wipe {own : List Nat} {σ : St} : wipe (wipe σ own) own = wipe σ own := wipe_same ⟨wipe_length _ _, fun j hj => wipe_out hj⟩
theorem Rel.wipe {G : Gx} {F : Fm} {e : Env} {σ : St} {H S : Hp} (R : Rel G F e σ H S) : ∀ is : List Nat, Rel G F (wipeE is e) (L2.wipe σ is) H S
  | [] => R
  | i :: is => by
    unfold wipeE L2.wipe
    exact (Rel.wipe R is).drop
theorem gis_ok {G : Gx} {F : Fm} {H S : Hp} {own : List Nat} {σ0 : St} {P : St → Hp → Prop} : ∀ {is : List Nat} {ds : List Dv} {vs : List V} {e e1 : Env} {σ : St}, Rel G F e σ H S → Same own σ0 σ → (∀ i ∈ is, i ∈ own) → RepL G S vs ds → setsT is ds e = some e1 →
    (∀ σ2, Rel G F e1 σ2 H S → Same own σ0 σ2 → P σ2 H) → gIs is vs σ H P ∧ vs.length = is.length
  | [], [], _, e, e1, σ, R, sm, _, r, h, q => by
    cases r
    unfold setsT at h
    cases h
    exact ⟨⟨rfl, q σ R sm⟩, rfl⟩
  | [], _ :: _, _, e, e1, σ, R, sm, _, r, h, q => by unfold setsT at h; cases h
  | _ :: _, [], _, e, e1, σ, R, sm, _, r, h, q => by unfold setsT at h; cases h
  | i :: is, d :: ds, _, e, e1, σ, R, sm, hi, r, h, q => by
    cases r with
    | cons a b =>
      unfold setsT at h
      obtain ⟨k1, k2⟩ := gis_ok (R.putS (i := i) a) (sm.set (hi i List.mem_cons_self)) (fun j hj => hi j (List.mem_cons_of_mem _ hj)) b h q
      exact ⟨⟨_, _, rfl, k1⟩, by rw [List.length_cons, List.length_cons, k2]⟩
theorem tgIn_tp {own is : List Nat} (h : tgIn own (.tp is) = true) : ∀ i ∈ is, i ∈ own := fun i hi => by
  unfold tgIn at h
  have := List.all_eq_true.mp h i hi
  simpa using this
theorem tg_ok {G : Gx} {F : Fm} {H S : Hp} {own : List Nat} {σ0 σ : St} {e e1 : Env} {tg : Tg} {d : Dv} {v : V} {P : St → Hp → Prop} (R : Rel G F e σ H S) (sm : Same own σ0 σ) (ti : tgIn own tg = true) (r : RepS G S v d) (h : bindD tg d e = some e1)
    (q : ∀ σ2, Rel G F e1 σ2 H S → Same own σ0 σ2 → P σ2 H) : gT G.K tg v σ H P := by
  cases tg with
  | nm i k =>
    unfold bindD at h
    cases h
    have hi : i ∈ own := by
      unfold tgIn at ti
      simpa using ti
    exact q _ (R.putS r) (sm.set hi)
  | tp is =>
    unfold bindD at h
    have hi := tgIn_tp ti
    cases d with
    | tup ds =>
      cases r with
      | tup a b c =>
        obtain ⟨k1, k2⟩ := gis_ok R sm hi c h q
        exact .inl ⟨_, _, rfl, R.sub.sqT a, k2, k1⟩
    | lst ds =>
      cases r with
      | lst a b c =>
        obtain ⟨k1, k2⟩ := gis_ok R sm hi c h q
        exact .inr ⟨_, _, rfl, R.sub.sqL a, k2, k1⟩
    | _ => cases h
end
end Dg

/-! The evaluator is sound: iterators, comprehensions. -/
namespace Dg
open PySem PySem.Spec L2
section
variable {L : Lk} {lv : Nat} {se : SE} {X : Cx} {W : WX}
theorem Sub.sqL_of {K : PySem.W.Frag} {S H : Hp} (h : Sub S H) {a : Addr} {xs : List V} (r : SqL K S a xs) : SqL K H a xs := h.sqL r
/-- a list that stands in B, its items shared -/
theorem walks_lst {a : Addr} {xs : List V} {ds : List Dv} {B S0 : Hp} (h : ∀ H, Sub B H → SqL L.G.K H a xs) (r : RepL L.G S0 xs ds) : Walks L (Itl L.G.K a) B S0 ds := fun H S i hb hs sub => by
  refine ⟨fun d hd => ?_, fun hi => ⟨xs, h H hb, by rw [r.len]; exact hi⟩⟩
  obtain ⟨v, e, q⟩ := r.get hd
  refine ⟨⟨xs, v, h H hb, e⟩, fun x H' y => ?_⟩
  obtain ⟨rfl, y⟩ := y
  have := y xs (h _ hb)
  rw [e] at this
  cases this
  exact ⟨S, .refl sub, q.mono hs⟩
theorem walks_tup {a : Addr} {xs : List V} {ds : List Dv} {B S0 : Hp} (h : ∀ H, Sub B H → SqT L.G.K H a xs) (r : RepL L.G S0 xs ds) : Walks L (Itt L.G.K a) B S0 ds := fun H S i hb hs sub => by
  refine ⟨fun d hd => ?_, fun hi => ⟨xs, h H hb, by rw [r.len]; exact hi⟩⟩
  obtain ⟨v, e, q⟩ := r.get hd
  refine ⟨⟨xs, v, h H hb, e⟩, fun x H' y => ?_⟩
  obtain ⟨rfl, y⟩ := y
  have := y xs (h _ hb)
  rw [e] at this
  cases this
  exact ⟨S, .refl sub, q.mono hs⟩
theorem rngI_get {a b : Int} {i : Nat} {d : Dv} (h : (rngI a b)[i]? = some d) : d = .int (a + i) ∧ i < (b - a).toNat := by
  unfold rngI at h
  rw [List.getElem?_map] at h
  cases q : (List.range (b - a).toNat)[i]? with
  | none => rw [q] at h; cases h
  | some k =>
    rw [q] at h
    cases h
    obtain ⟨h1, h2⟩ := List.getElem?_eq_some_iff.mp q
    rw [List.getElem_range] at h2
    rw [List.length_range] at h1
    exact ⟨by rw [← h2], h1⟩
theorem rngI_len {a b : Int} : (rngI a b).length = (b - a).toNat := by
  unfold rngI
  rw [List.length_map, List.length_range]
theorem walks_rng {a b : Int} {B S0 : Hp} : Walks L (Itr a (b - a).toNat) B S0 (rngI a b) := fun H S i hb hs sub => by
  refine ⟨fun d hd => ?_, fun hi => by rw [rngI_len] at hi; exact hi⟩
  obtain ⟨rfl, h2⟩ := rngI_get hd
  refine ⟨h2, fun x H' y => ?_⟩
  obtain ⟨rfl, rfl⟩ := y
  exact ⟨S, .refl sub, .int _⟩
theorem outIX {b : Bool} {σ : L2.St} {H S : Hp} {R : It → Hp → Prop} : ∀ C t, OutI L b W σ H S (.ex C t) R → ∀ H1 S1, Grow H S H1 S1 → ExW L.G W σ H1 C t := fun _ _ h => h
theorem Grow.ref {H S : Hp} (h : Sub S H) : Grow H S H S := .refl h
/-- a list, a tuple -/
theorem i_seq {b : Bool} {tg a : Expr} {ma : Ex} (xo : XOk L lv se X) (ia : PE X a (tE L lv ma W)) : PI X tg a (tI L lv b (.seq ma) W) := by
  refine PI.imp (PI.or (pi_list ia) (pi_tup ia)) fun σ H Q ⟨F, e, S, R, o⟩ => ?_
  rw [evalS] at o
  -- the answer's kind tells which
  cases he : evalE (clI L.pg lv) ma e with
  | ex C t =>
    rw [he] at o
    refine .inl ⟨F, e, S, R, ?_⟩
    rw [he]
    exact o
  | no => rw [he] at o; exact o.elim
  | ok sx =>
    rw [he] at o
    have o : OutI L b W σ H S ((ofO (viewS b sx)).bind fun d => ofO d.items) Q := o
    cases hv : viewS b sx with
    | none => rw [hv] at o; exact o.elim
    | some d =>
      rw [hv] at o
      have o : OutI L b W σ H S (ofO d.items) Q := o
      -- what is walked
      have go : ∀ v H1 S1, Grow H S H1 S1 → RepV L.G H H1 S1 v sx → ∃ S2, Grow H S H1 S2 ∧ RepB L.G (if b then S2 else H1) S2 v d := fun v H1 S1 g r => by
        cases b with
        | true =>
          unfold viewS at hv
          rw [if_pos rfl] at hv
          obtain ⟨S2, g2, s2, q⟩ := RepV.share2 g r hv
          exact ⟨S2, g2, q.b (.refl S2)⟩
        | false =>
          unfold viewS at hv
          rw [if_neg Bool.false_ne_true] at hv
          cases hv
          exact ⟨S1, g, r.b g.sub⟩
      cases d with
      | lst ds =>
        refine .inl ⟨F, e, S, R, ?_⟩
        rw [he]
        intro v H1 S1 g r
        obtain ⟨S2, g2, a, xs, rfl, l, z, q⟩ := go v H1 S1 g r
        refine ⟨a, rfl, ⟨xs, ?_⟩, ?_⟩
        · rw [xo.K]
          cases b with
          | true => exact g2.sub.sqL l
          | false => exact l
        · rw [xo.K]
          refine o _ H1 S2 g2 (walks_lst (xs := xs) (fun H hb => ?_) q) (by have := q.len; omega)
          cases b with
          | true => exact hb.sqL l
          | false => exact hb.sqL l
      | tup ds =>
        refine .inr ⟨F, e, S, R, ?_⟩
        rw [he]
        intro v H1 S1 g r
        obtain ⟨S2, g2, q⟩ := go v H1 S1 g r
        cases q with
        | tup l z q =>
          refine ⟨_, rfl, ⟨_, by rw [xo.K]; exact g2.sub.sqT l⟩, ?_⟩
          rw [xo.K]
          refine o _ H1 S2 g2 (walks_tup (fun H hb => ?_) q) (by have := q.len; omega)
          cases b with
          | true => exact hb.sqT l
          | false => exact (g2.sub.trans hb).sqT l
      | _ => exact o.elim
theorem i_rng1 (co : CallsOk L lv) (xo : XOk L lv se X) {b : Bool} {n : Nat} {tg a : Expr} {ma : Ex} {p pos : Pos} (hx : gloOf se "range" = some .blt) (ha : cE n se a = some ma) (ia : PE X a (tE L lv ma W)) : PI X tg (.Call (.Name "range" p) [a] [] pos) (tI L lv b (.rng1 ma) W) := by
  obtain ⟨gl, _⟩ := glo_blt xo hx
  have s1 := star_of ha [] X.env
  refine PI.imp (pi_range1 gl (blt_none co xo hx (by decide +kernel)) (pa_cons ia pa_nil s1) s1) fun σ H Q ⟨F, e, S, R, o⟩ => ?_
  rw [evalS] at o
  refine tE.bind R (P := fun r => OutI L b W σ H S r Q) outIX (fun h => h) o fun sx v H1 S1 g1 R1 r1 o1 => ?_
  split at o1
  · rename_i j hj
    split at o1
    · rename_i hr
      refine ⟨j, by rw [int_of R1.sub r1 hj], hr.1.1, hr.1.2, ?_⟩
      have e1 : j.toNat = (j - 0).toNat := by simp
      rw [e1]
      exact o1 _ H1 S1 g1 walks_rng (by rw [rngI_len]; simpa using hr.2)
    · exact o1.elim
  · exact o1.elim
theorem i_rng2 (co : CallsOk L lv) (xo : XOk L lv se X) {k : Bool} {n : Nat} {tg a b : Expr} {ma mb : Ex} {p pos : Pos} (hx : gloOf se "range" = some .blt) (ha : cE n se a = some ma) (hb : cE n se b = some mb) (ia : PE X a (tE L lv ma W)) (ib : PE X b (tE L lv mb W)) :
    PI X tg (.Call (.Name "range" p) [a, b] [] pos) (tI L lv k (.rng2 ma mb) W) := by
  obtain ⟨gl, _⟩ := glo_blt xo hx
  have s2 := star_of hb [] X.env
  have s1 := star_of ha [b] X.env
  refine PI.imp (pi_range2 gl (blt_none co xo hx (by decide +kernel)) (pa_cons ia (pa_cons ib pa_nil s2) s1) (by rw [s1, s2]; rfl) (by rw [s2]; rfl)) fun σ H Q ⟨F, e, S, R, o⟩ => ?_
  rw [evalS] at o
  refine tE.bind R (P := fun r => OutI L k W σ H S r Q) outIX (fun h => h) o fun sx v H1 S1 g1 R1 r1 o1 => ?_
  refine tE.bind R1 (P := fun r => OutI L k W σ H S r Q) (fun C t h H2 S2 g => outIX C t h H2 S2 (g1.trans g)) (fun h => h) o1 fun sy u H2 S2 g2 R2 r2 o2 => ?_
  split at o2
  · rename_i i j hi hj
    split at o2
    · rename_i hr
      refine ⟨i, j, by rw [int_of R2.sub (r1.mono g2) hi, int_of R2.sub r2 hj], ⟨hr.1.1, hr.1.2, hr.2.1.1, hr.2.1.2⟩, ?_⟩
      exact o2 _ H2 S2 (g1.trans g2) walks_rng (by rw [rngI_len]; exact hr.2.2)
    · exact o2.elim
  · exact o2.elim
/-- range with a step -/
theorem rngS_get {a s : Int} {n i : Nat} {d : Dv} (h : (rngS a s n)[i]? = some d) : d = .int (a + (i : Nat) * s) ∧ i < n := by
  unfold rngS at h
  rw [List.getElem?_map] at h
  cases q : (List.range n)[i]? with
  | none => rw [q] at h; cases h
  | some k =>
    rw [q] at h
    cases h
    obtain ⟨h1, h2⟩ := List.getElem?_eq_some_iff.mp q
    rw [List.getElem_range] at h2
    rw [List.length_range] at h1
    exact ⟨by rw [← h2], h1⟩
theorem rngS_len {a s : Int} {n : Nat} : (rngS a s n).length = n := by
  unfold rngS
  rw [List.length_map, List.length_range]
theorem walks_rngS {a s : Int} {n : Nat} {B S0 : Hp} : Walks L (Itc a s n) B S0 (rngS a s n) := fun H S i hb hs sub => by
  refine ⟨fun d hd => ?_, fun hi => by rw [rngS_len] at hi; exact hi⟩
  obtain ⟨rfl, h2⟩ := rngS_get hd
  refine ⟨h2, fun x H' y => ?_⟩
  obtain ⟨rfl, rfl⟩ := y
  exact ⟨S, .refl sub, .int _⟩
theorem i_rngC (co : CallsOk L lv) (xo : XOk L lv se X) {k : Bool} {n : Nat} {tg a b c : Expr} {ma mb : Ex} {s : Int} {p pos : Pos} (hx : gloOf se "range" = some .blt) (ha : cE n se a = some ma) (hb : cE n se b = some mb) (hc : cE n se c = some (.cst (.int s))) (ia : PE X a (tE L lv ma W)) (ib : PE X b (tE L lv mb W)) (ic : PE X c (tE L lv (.cst (.int s)) W)) :
    PI X tg (.Call (.Name "range" p) [a, b, c] [] pos) (tI L lv k (.rngC ma mb s) W) := by
  obtain ⟨gl, _⟩ := glo_blt xo hx
  have s3 := star_of hc [] X.env
  have s2 := star_of hb [c] X.env
  have s1 := star_of ha [b, c] X.env
  refine PI.imp (pi_range3 gl (blt_none co xo hx (by decide +kernel)) (pa_cons ia (pa_cons ib (pa_cons ic pa_nil s3) s2) s1) (by rw [s1]) (by rw [s2, s3]; rfl)) fun σ H Q ⟨F, e, S, R, o⟩ => ?_
  rw [evalS] at o
  refine tE.bind R (P := fun r => OutI L k W σ H S r Q) outIX (fun h => h) o fun sx v H1 S1 g1 R1 r1 o1 => ?_
  refine tE.bind R1 (P := fun r => OutI L k W σ H S r Q) (fun C t h H2 S2 g => outIX C t h H2 S2 (g1.trans g)) (fun h => h) o1 fun sy u H2 S2 g2 R2 r2 o2 => ?_
  have e3 : evalE (clI L.pg lv) (.cst (.int s)) e = .ok (.sh (.int s)) := by rw [evalE]
  refine ⟨F, e, S2, R2, ?_⟩
  rw [e3]
  intro z H3 S3 g3 r3
  split at o2
  · rename_i i j hi hj
    split at o2
    · rename_i hr
      have hz : z = .int s := by cases r3; rfl
      refine ⟨i, j, s, _, by rw [int_of R2.sub (r1.mono g2) hi, int_of R2.sub r2 hj, hz], ⟨hr.1.1, hr.1.2.1, hr.1.2.2.1, hr.1.2.2.2⟩, ?_⟩
      exact o2 _ H3 S3 ((g1.trans g2).trans g3) walks_rngS (by rw [rngS_len]; exact hr.2)
    · exact o2.elim
  · exact o2.elim
theorem i_rng3 (co : CallsOk L lv) (xo : XOk L lv se X) {k : Bool} {n : Nat} {tg a b c : Expr} {ma mb mc : Ex} {p pos : Pos} (hx : gloOf se "range" = some .blt) (ha : cE n se a = some ma) (hb : cE n se b = some mb) (hc : cE n se c = some mc) (ia : PE X a (tE L lv ma W)) (ib : PE X b (tE L lv mb W)) (ic : PE X c (tE L lv mc W)) :
    PI X tg (.Call (.Name "range" p) [a, b, c] [] pos) (tI L lv k (.rng3 ma mb mc) W) := by
  obtain ⟨gl, _⟩ := glo_blt xo hx
  have s3 := star_of hc [] X.env
  have s2 := star_of hb [c] X.env
  have s1 := star_of ha [b, c] X.env
  refine PI.imp (pi_range3 gl (blt_none co xo hx (by decide +kernel)) (pa_cons ia (pa_cons ib (pa_cons ic pa_nil s3) s2) s1) (by rw [s1]) (by rw [s2, s3]; rfl)) fun σ H Q ⟨F, e, S, R, o⟩ => ?_
  rw [evalS] at o
  refine tE.bind R (P := fun r => OutI L k W σ H S r Q) outIX (fun h => h) o fun sx v H1 S1 g1 R1 r1 o1 => ?_
  refine tE.bind R1 (P := fun r => OutI L k W σ H S r Q) (fun C t h H2 S2 g => outIX C t h H2 S2 (g1.trans g)) (fun h => h) o1 fun sy u H2 S2 g2 R2 r2 o2 => ?_
  refine tE.bind R2 (P := fun r => OutI L k W σ H S r Q) (fun C t h H3 S3 g => outIX C t h H3 S3 ((g1.trans g2).trans g)) (fun h => h) o2 fun sz z H3 S3 g3 R3 r3 o3 => ?_
  split at o3
  · rename_i i j s hi hj hs
    split at o3
    · rename_i hr
      refine ⟨i, j, s, _, by rw [int_of R3.sub ((r1.mono g2).mono g3) hi, int_of R3.sub (r2.mono g3) hj, int_of R3.sub r3 hs], ⟨hr.1.1, hr.1.2.1, hr.1.2.2.1, hr.1.2.2.2⟩, ?_⟩
      exact o3 _ H3 S3 ((g1.trans g2).trans g3) walks_rngS (by rw [rngS_len]; exact hr.2)
    · exact o3.elim
  · exact o3.elim
/-- reversed: a list, a tuple -/
theorem walks_rev {a : Addr} {xs : List V} {ds : List Dv} {B S0 : Hp} (h : ∀ H, Sub B H → SqL L.G.K H a xs) (r : RepL L.G S0 xs ds) : Walks L (Itv L.G.K a xs.length) B S0 ds.reverse := fun H S i hb hs sub => by
  have hl := r.len
  refine ⟨fun d hd => ?_, fun hi => show xs.length ≤ i by rw [List.length_reverse] at hi; omega⟩
  have hi : i < ds.length := by have := (List.getElem?_eq_some_iff.mp hd).1; simpa using this
  rw [List.getElem?_reverse hi, ← hl] at hd
  obtain ⟨v, e, q⟩ := r.get hd
  refine ⟨⟨by omega, xs, v, h H hb, e⟩, fun x H' y => ?_⟩
  obtain ⟨rfl, y⟩ := y
  have := y xs (h _ hb)
  rw [e] at this
  cases this
  exact ⟨S, .refl sub, q.mono hs⟩
theorem walks_revT {a : Addr} {xs : List V} {ds : List Dv} {B S0 : Hp} (h : ∀ H, Sub B H → SqT L.G.K H a xs) (r : RepL L.G S0 xs ds) : Walks L (RT.ItvT L.G.K a xs.length) B S0 ds.reverse := fun H S i hb hs sub => by
  have hl := r.len
  refine ⟨fun d hd => ?_, fun hi => show xs.length ≤ i by rw [List.length_reverse] at hi; omega⟩
  have hi : i < ds.length := by have := (List.getElem?_eq_some_iff.mp hd).1; simpa using this
  rw [List.getElem?_reverse hi, ← hl] at hd
  obtain ⟨v, e, q⟩ := r.get hd
  refine ⟨⟨by omega, xs, v, h H hb, e⟩, fun x H' y => ?_⟩
  obtain ⟨rfl, y⟩ := y
  have := y xs (h _ hb)
  rw [e] at this
  cases this
  exact ⟨S, .refl sub, q.mono hs⟩
theorem i_rev (co : CallsOk L lv) (xo : XOk L lv se X) {b : Bool} {n : Nat} {tg a : Expr} {ma : Ex} {p pos : Pos} (hx : gloOf se "reversed" = some .blt) (ha : cE n se a = some ma) (ia : PE X a (tE L lv ma W)) : PI X tg (.Call (.Name "reversed" p) [a] [] pos) (tI L lv b (.rev ma) W) := by
  obtain ⟨gl, _⟩ := glo_blt xo hx
  have s1 := star_of ha [] X.env
  refine PI.imp (RT.pi_revA gl (blt_none co xo hx (by decide +kernel)) ia s1) fun σ H Q ⟨F, e, S, R, o⟩ => ?_
  rw [evalS] at o
  refine ⟨F, e, S, R, ?_⟩
  cases he : evalE (clI L.pg lv) ma e with
  | ex C t => rw [he] at o; exact o
  | no => rw [he] at o; exact o.elim
  | ok sx =>
    rw [he] at o
    have o : OutI L b W σ H S ((ofO (viewS b sx)).bind fun d => (ofO d.items).bind fun ds => .ok ds.reverse) Q := o
    cases hv : viewS b sx with
    | none => rw [hv] at o; exact o.elim
    | some d =>
      rw [hv] at o
      have o : OutI L b W σ H S ((ofO d.items).bind fun ds => .ok ds.reverse) Q := o
      intro v H1 S1 g r
      have go : ∃ S2, Grow H S H1 S2 ∧ RepB L.G (if b then S2 else H1) S2 v d := by
        cases b with
        | true =>
          unfold viewS at hv
          rw [if_pos rfl] at hv
          obtain ⟨S2, g2, s2, q⟩ := RepV.share2 g r hv
          exact ⟨S2, g2, q.b (.refl S2)⟩
        | false =>
          unfold viewS at hv
          rw [if_neg Bool.false_ne_true] at hv
          cases hv
          exact ⟨S1, g, r.b g.sub⟩
      obtain ⟨S2, g2, q⟩ := go
      cases d with
      | lst ds =>
        obtain ⟨a, xs, rfl, l, z, q⟩ := q
        refine ⟨a, xs, rfl, .inl ⟨?_, ?_⟩⟩
        · rw [xo.K]
          cases b with
          | true => exact g2.sub.sqL l
          | false => exact l
        · rw [xo.K]
          refine o _ H1 S2 g2 (walks_rev (xs := xs) (fun H hb => ?_) q) (by rw [List.length_reverse]; have := q.len; omega)
          cases b with
          | true => exact hb.sqL l
          | false => exact hb.sqL l
      | tup ds =>
        cases q with
        | tup l z q =>
          refine ⟨_, _, rfl, .inr ⟨by rw [xo.K]; exact g2.sub.sqT l, ?_⟩⟩
          rw [xo.K]
          refine o _ H1 S2 g2 (walks_revT (fun H hb => ?_) q) (by rw [List.length_reverse]; have := q.len; omega)
          cases b with
          | true => exact hb.sqT l
          | false => exact (g2.sub.trans hb).sqT l
      | _ => exact o.elim
/-! ### comprehensions -/
theorem takes_no {X : Cx} : Takes X (fun _ _ _ _ => False) := fun u s' ⟨_, _, _, _, _, _, _, _, _, _, _, _, _, _, _, _, w⟩ => w.elim
theorem outCX {σ : L2.St} {H S : Hp} {Q : Bool → Hp → Prop} : ∀ C t, OutC L W σ H S (.ex C t) Q → ∀ H1 S1, Grow H S H1 S1 → ExW L.G W σ H1 C t := fun _ _ h => h
theorem c_none : PTs X [] (tC1 L lv .non W) := PTs.imp pts_nil fun σ H Q ⟨F, e, S, R, o⟩ => by
  rw [evalC] at o
  exact o H S (.refl R.sub)
theorem c_some {c : Expr} {mc : Ex} (ic : PT X c (tT L lv mc W)) : PTs X [c] (tC1 L lv (.som mc) W) := by
  refine PTs.imp (pts_one ic) fun σ H Q ⟨F, e, S, R, o⟩ => ?_
  rw [evalC] at o
  refine tT.bind R (P := fun r => OutC L W σ H S r Q) outCX (fun h => h) o (fun sv h => ?_) fun sv b H1 S1 hb g R1 h => ?_
  · split at h
    · exact ⟨_, by assumption⟩
    · exact h.elim
  · rw [hb] at h
    exact h H1 S1 g
/-- one element -/
def eltI (cl : Cl) (own : List Nat) (tg : Tg) (cond : Ox) (elt : Ex) (e : Env) (d : Dv) : Rs (Option Dv) := match bindD tg d (wipeE own e) with
  | some e1 => match evalC cl cond e1 with
    | .ok true => (evalE cl elt e1).bind fun x => (ofO x.share).bind fun y => .ok (some y)
    | .ok false => .ok none
    | _ => .no
  | none => .no
theorem compI_cons {f : Dv → Rs (Option Dv)} {d : Dv} {r : List Dv} {xs : List Dv} (h : compI f (d :: r) = .ok xs) : ∃ o ys, f d = .ok o ∧ compI f r = .ok ys ∧ xs = (match o with
    | some x => x :: ys
    | none => ys) := by
  unfold compI at h
  cases q : f d with
  | ex C t => rw [q] at h; cases h
  | no => rw [q] at h; cases h
  | ok o =>
    rw [q] at h
    cases q2 : compI f r with
    | ex C t => rw [q2] at h; cases h
    | no => rw [q2] at h; cases h
    | ok ys =>
      rw [q2] at h
      have h : Rs.ok _ = Rs.ok xs := h
      injection h with h
      exact ⟨o, ys, rfl, rfl, h.symm⟩
abbrev WNo : WX := fun _ _ _ _ => False
theorem lc_read {own : List Nat} {tg : Tg} {src : Src} {cond : Ox} {elt : Ex} {σ : L2.St} {H : Hp} {Q : VK} (ti : tgIn own tg = true) (h : tE L lv (.comp own tg src cond elt) W σ H Q) :
    tLc (tI L lv false src W) (gT L.G.K tg) (tC1 L lv cond WNo) (tE L lv elt WNo) own σ H Q := by
  obtain ⟨F, e, S, R, o⟩ := h
  rw [evalE] at o
  refine ⟨F, e, S, R, ?_⟩
  cases hs : evalS (clI L.pg lv) false src e with
  | ex C t => rw [hs] at o; exact o
  | no => rw [hs] at o; exact o.elim
  | ok ds =>
    rw [hs] at o
    have o : Out L.G W σ H S (match compI (eltI (clI L.pg lv) own tg cond elt e) ds with
      | .ok xs => .ok (.l1 xs)
      | _ => .no) Q := o
    cases hc : compI (eltI (clI L.pg lv) own tg cond elt e) ds with
    | ex C t => rw [hc] at o; exact o.elim
    | no => rw [hc] at o; exact o.elim
    | ok xs =>
      rw [hc] at o
      have o : Out L.G W σ H S (.ok (.l1 xs)) Q := o
      intro J H1 S1 g1 wk hl D hD
      have sD := g1.sub.none hD
      -- the invariant: what is there, what is done
      refine ⟨fun i m H' => m = ds.length - i ∧ ∃ S' acc ad ys, Grow H1 S1 H' S' ∧ H' D = some (.lst acc) ∧ S' D = none ∧ RepL L.G S' acc ad ∧ acc.length + (ds.length - i) ≤ ds.length ∧ compI (eltI (clI L.pg lv) own tg cond elt e) (ds.drop i) = .ok ys ∧ ad ++ ys = xs,
        ⟨_, rfl, S1, [], [], xs, Grow.own g1.sub hD, upd_same, sD, .nil, by simp, by rw [List.drop_zero]; exact hc, rfl⟩, ?_⟩
      intro i m H2 ⟨hm, S2, acc, ad, ys, g2, hD2, sD2, ra, hai, hy, hx⟩
      have wki := wk H2 S2 i (by simpa using g2.h) g2.s g2.sub
      by_cases hi : ds.length ≤ i
      · refine .inl ⟨wki.2 hi, ?_⟩
        rw [List.drop_of_length_le hi] at hy
        unfold compI at hy
        cases hy
        rw [List.append_nil] at hx
        subst hx
        have e1 := ra.len
        exact o _ H2 S2 (g1.trans g2) ⟨D, acc, rfl, hD2, by omega, ra, sD2, g1.h.none hD⟩
      · have hi2 : i < ds.length := by omega
        obtain ⟨d, hd⟩ : ∃ d, ds[i]? = some d := ⟨_, List.getElem?_eq_getElem hi2⟩
        rw [List.drop_eq_getElem_cons hi2] at hy
        have hd' : ds[i] = d := by
          have := List.getElem?_eq_getElem hi2
          rw [hd] at this
          injection this with this
          exact this.symm
        rw [hd'] at hy
        obtain ⟨oo, zs, q1, q2, q3⟩ := compI_cons hy
        obtain ⟨jg, jy⟩ := wki.1 d hd
        refine .inr ⟨jg, fun H' => ∃ S' acc ad ys, Grow H1 S1 H' S' ∧ H' D = some (.lst acc) ∧ S' D = none ∧ RepL L.G S' acc ad ∧ acc.length + (ds.length - (i + 1)) ≤ ds.length ∧ compI (eltI (clI L.pg lv) own tg cond elt e) (ds.drop (i + 1)) = .ok ys ∧ ad ++ ys = xs,
          fun H' q => ⟨ds.length - (i + 1), by omega, rfl, q⟩, fun x H3 y => ?_⟩
        obtain ⟨S3, g3, r3⟩ := jy x H3 y
        have g13 := g2.trans g3
        have hD3 := g3.h _ _ hD2
        have sD3 := g3.none hD2 sD2
        unfold eltI at q1
        cases hb : bindD tg d (wipeE own e) with
        | none => rw [hb] at q1; cases q1
        | some e1 =>
          rw [hb] at q1
          have q1 : (match evalC (clI L.pg lv) cond e1 with
            | .ok true => (evalE (clI L.pg lv) elt e1).bind fun x => (ofO x.share).bind fun y => .ok (some y)
            | .ok false => .ok none
            | _ => .no) = Rs.ok oo := q1
          have R3 : Rel L.G F (wipeE own e) (wipe σ own) H3 S3 := (R.mono (g1.trans g13)).wipe own
          refine tg_ok (G := L.G) R3 .refl ti r3 hb fun σ2 R4 sm => ⟨?_, F, e1, S3, R4, ?_⟩
          · rw [wipe_same sm, wipe_wipe]
          · cases hcc : evalC (clI L.pg lv) cond e1 with
            | ex C t => rw [hcc] at q1; cases q1
            | no => rw [hcc] at q1; cases q1
            | ok bb =>
              rw [hcc] at q1
              intro H5 S5 g5
              have R5 := R4.mono g5
              have hD5 := g5.h _ _ hD3
              have sD5 := g5.none hD3 sD3
              cases bb with
              | false =>
                cases q1
                rw [if_neg Bool.false_ne_true]
                exact ⟨S5, acc, ad, zs, g13.trans g5, hD5, sD5, (ra.mono g3.s).mono g5.s, by omega, q2, by rw [← hx, q3]⟩
              | true =>
                rw [if_pos rfl]
                refine ⟨F, e1, S5, R5, ?_⟩
                cases hee : evalE (clI L.pg lv) elt e1 with
                | ex C t => rw [hee] at q1; cases q1
                | no => rw [hee] at q1; cases q1
                | ok sv =>
                  rw [hee] at q1
                  have q1 : ((ofO sv.share).bind fun y => Rs.ok (some y)) = Rs.ok oo := q1
                  cases hsh : sv.share with
                  | none => rw [hsh] at q1; cases q1
                  | some dd =>
                    rw [hsh] at q1
                    cases q1
                    intro v H6 S6 g6 r6
                    obtain ⟨S7, g7, s7, rr⟩ := RepV.share2 g6 r6 hsh
                    have hD7 := g7.h _ _ hD5
                    have sD7 := g7.none hD5 sD5
                    have g17 := (g13.trans g5).trans g7
                    refine ⟨acc, hD7, by rw [← lim]; omega, S7, acc ++ [v], ad ++ [dd], zs, ⟨fun a o q => ?_, g17.s, fun a o q => ?_, g17.new⟩, upd_same, sD7, (((ra.mono g3.s).mono g5.s).mono g7.s).append (.cons rr .nil), by rw [List.length_append]; simp; omega, q2, by rw [← hx, q3]; simp⟩
                    · have n : a ≠ D := ne_of_none q hD
                      rw [upd_ne n]
                      exact g17.h _ _ q
                    · have n : a ≠ D := ne_of_none q sD7
                      rw [upd_ne n]
                      exact g7.sub _ _ q
end
end Dg

/-! The evaluator is sound: enumerate of a list, of a tuple. -/
namespace Dg
open PySem PySem.Spec L2 PyProof.Rows
open Sem (wp)
open AutoSeq1 (wpAny_loadPart')
theorem meets_enumT (t : Addr) (items : Array Value) :
    Meets (Builtin.«enumerate.__new__» ⟨[.type "enumerate", .ref t], []⟩) (fun _ R s => s.heap.IsTuple t items ∧
      R (.ok (.ret (.ref (s.heap.push { cls := .type "tuple_iterator", data := .fields #[.ref t, .int 0 0] }).objs.size)))
        { s with heap := (s.heap.push { cls := .type "tuple_iterator", data := .fields #[.ref t, .int 0 0] }).push { cls := .type "enumerate", data := .fields #[.none, .bool false, .ref s.heap.objs.size, rawInt 0, .none, .none] } }) :=
  .of_wp fun prog w A R s h => by
    obtain ⟨hp, g, d, tk, os⟩ := s; obtain ⟨h1, h⟩ := h
    have hsub := sub_enumerate
    have q1 : ∀ {A' : Around} {E : Value → Shared → Prop} {Q : Value → Shared → Prop}, Q (.ref hp.objs.size) ⟨hp.push { cls := .type "tuple_iterator", data := .fields #[.ref t, .int 0 0] }, g, d, tk, os⟩ → wpAny (model prog w) A' (pyIter (.ref t)) Q E ⟨hp, g, d, tk, os⟩ :=
      fun q => wpAny_pyIter_tuple h1 q
    wp_walk using q1
    refine wpAny_stack_any fun st => wpAny_pure ?_
    split
    · rename_i c _ _ _ _ _
      cases (c == Value.type "enumerate")
      · wp_walk using q1
        exact ⟨_, rfl, h⟩
      · wp_walk using q1
        exact ⟨_, rfl, h⟩
    · wp_walk using q1
      exact ⟨_, rfl, h⟩
section
variable {prog : Program} {w : World} {A : Around} {E : Value → Shared → Prop} {s : Shared}
theorem call_enumT {t : Addr} {items : Array Value} {Q : Value → Shared → Prop} (hL : s.heap.IsTuple t items)
    (h : ∀ h', IsEnum h' (s.heap.objs.size + 1) s.heap.objs.size 0 .none → h'.IsTupleIter s.heap.objs.size t 0 → h'.objs.size = s.heap.objs.size + 2 →
      (∀ b o, s.heap.get? b = some o → h'.get? b = some o) → Q (.ref (s.heap.objs.size + 1)) { s with heap := h' }) :
    wpAny (model prog w) A (call (.type "enumerate") [.ref t]) Q E s := by
  refine callType_new F.called_enumerate (by decide) (F.typeCall_enumerate_1 _) (F.newCall_enumerate_1 _) (fun obj => F.args_object_init_2 obj _) F.entry_enumerate_new
    (meets_enumT t items) ⟨hL, ?_⟩
  have hz : (s.heap.push { cls := .type "tuple_iterator", data := .fields #[.ref t, .int 0 0] }).objs.size = s.heap.objs.size + 1 := Heap.size_push ..
  show _ ∧ _
  rw [hz]
  have he : IsEnum ((s.heap.push { cls := .type "tuple_iterator", data := .fields #[.ref t, .int 0 0] }).push
      { cls := .type "enumerate", data := .fields #[.none, .bool false, .ref s.heap.objs.size, rawInt 0, .none, .none] }) (s.heap.objs.size + 1) s.heap.objs.size 0 .none := by
    have := Heap.get?_push_size (s.heap.push { cls := .type "tuple_iterator", data := .fields #[.ref t, .int 0 0] })
      (o := { cls := .type "enumerate", data := .fields #[.none, .bool false, .ref s.heap.objs.size, rawInt 0, .none, .none] }) rfl
    rw [hz] at this; exact this
  refine ⟨⟨_, he, rfl⟩, h _ he ⟨_, Heap.get?_push_of_some _ (Heap.get?_push_size _ rfl), rfl, rfl⟩ (by rw [Heap.size_push, hz]) fun b o x => Heap.get?_push_of_some _ (Heap.get?_push_of_some _ x)⟩
end
/-- the tuple at a as it stands at each turn, each item in a new pair -/
def IteT (K : PySem.W.Frag) (a : Addr) (n : Nat) : It :=
  ⟨fun i H => i < n ∧ ∃ (xs : List V) (x : V), SqT K H a xs ∧ xs[i]? = some x, fun i H v H' => ∃ T x, v = .ref T ∧ H T = none ∧ H' = upd H T (.tup [.int (i : Nat), x]) ∧ ∀ xs, SqT K H a xs → xs[i]? = some x, fun i H => n ≤ i ∧ ∃ xs : List V, SqT K H a xs ∧ xs.length = n⟩
theorem turn_enumT {P : Program} {w : World} {K : PySem.W.Frag} {elts : List Expr} {kk : Nat} {tpos : Pos} (a e it : Addr) (n : Nat) (hai : a ≠ it) (hea : e ≠ a) (hne : e ≠ it) :
    Turn P w K (.Tuple elts kk tpos) (IteT K a n) [e, it] e (fun i h => i ≤ n ∧ (∃ old, IsEnum h e it ((i : Nat) : Int) old) ∧ h.IsTupleIter it a i) where
  mem := by simp
  obj := fun i h st b hb => by
    obtain ⟨_, ⟨old, he⟩, ⟨o, ho, hc, hd⟩⟩ := st
    have e' : b = e ∨ b = it := by simpa using hb
    rcases e' with z | z
    · rw [z]; exact ⟨_, he, fun v q => nomatch q⟩
    · rw [z]; exact ⟨o, ho, fun v q => by rw [hd] at q; cases q⟩
  keep := fun i h h' st k => let ⟨hin, ⟨old, he⟩, hi⟩ := st; ⟨hin, ⟨old, k e (by simp) _ he⟩, hi.at fun o q => k it (by simp) o q⟩
  item := by
    intro X hP hw hK hc i pins s σ H E I hf st hg
    subst hP hw hK
    obtain ⟨hin, ⟨old, he⟩, hit⟩ := st
    obtain ⟨hin2, xs, x, hq, hx⟩ := hg
    obtain ⟨its, rv, p, hz⟩ := I.tuple hq
    obtain ⟨u, hu, ru⟩ := rv.get hx
    have hel : e < s.heap.objs.size := Heap.lt_size he
    have hil : it < s.heap.objs.size := by obtain ⟨_, q, _⟩ := hit; exact Heap.lt_size q
    have hlt : i < its.toArray.size := by
      have := (List.getElem?_eq_some_iff.mp hu).1
      simpa using this
    refine wpAny_pyNext_enum_itemD (Draws.tuple (A := X.A.in1) (show X.A.in1.handled = none from I.ok.hd hc) it a hai its.toArray) he ⟨hit, p⟩ hlt hne (by simp only [List.mem_cons, List.not_mem_nil, or_false]; rintro (z | z); exact hne z; exact hea z) fun y h' tk hy ho hst' hT hsz hk => ?_
    obtain ⟨hit', hp'⟩ := hst'
    have hyu : y = u := by
      have e1 : its.toArray[i]? = some u := by simpa using hu
      rw [e1] at hy
      cases hy
      rfl
    subst hyu
    refine ⟨_, rfl, wpAny_letOwnedTupleGo_enum (s := { s with heap := h', toks := tk + 1 }) ho fun h'' he' sb => ?_⟩
    have hT2 : h''.get? s.heap.objs.size = some { cls := .type "tuple", data := .seq #[.int i tk, y] } := (sb.2 _ (Nat.ne_of_gt hel)).trans hT
    have new : ObjOk X.prog X.w (upd H s.heap.objs.size (.tup [.int (i : Nat), x])) h'' s.heap.objs.size (.tup [.int (i : Nat), x]) :=
      ⟨by show 2 ≤ sizeLine; decide, [.int i tk, y], .cons ⟨_, rfl⟩ (.cons ru .nil), ⟨_, hT2, rfl, _, rfl⟩⟩
    have I1 : Inv X pins σ (upd H s.heap.objs.size (.tup [.int (i : Nat), x])) { s with heap := h'', toks := tk + 1 } :=
      I.turnedNew (t' := tk + 1) (ch := [e, it]) (fun b ob hb q => (sb.2 b (fun z => hb (by simp [z]))).trans (hk b ob (fun z => hb (by simp [z])) (fun z => hb (by simp [z])) q)) hf (Nat.le_refl _) new
    refine ⟨.ref s.heap.objs.size, _, I1, rfl, ⟨_, x, rfl, I.hok.fresh (Nat.le_refl _), rfl, fun ys hy => by rw [I.tuple_inj hy hq]; exact hx⟩, ⟨hin2, ⟨y, ?_⟩, hit'.at fun o q => (sb.2 it (Ne.symm hne)).trans q⟩, fun b hb => ?_⟩
    · have e1 : ((i + 1 : Nat) : Int) = (i : Int) + 1 := by omega
      rw [e1]; exact he'
    · have hb' : b < s.heap.objs.size := by
        have e' : b = e ∨ b = it := by simpa using hb
        rcases e' with z | z
        · rw [z]; exact hel
        · rw [z]; exact hil
      rw [upd_ne (Nat.ne_of_lt hb')]
      exact (hf b hb).1
  done := by
    intro X hP hw hK hc i pins s σ H E I hf st hg
    subst hP hw hK
    obtain ⟨hin, ⟨old, he⟩, hit⟩ := st
    obtain ⟨hge, xs, hq, hx⟩ := hg
    obtain ⟨its, rv, p, hz⟩ := I.tuple hq
    obtain ⟨f0, f1, f2, f3, f4, f5⟩ := hf it (by simp)
    have hl := rv.length
    have e1 : i = its.toArray.size := by simp only [List.size_toArray]; omega
    subst e1
    exact wpAny_pyNext_enum_endD (Draws.tuple (A := X.A.in1) (show X.A.in1.handled = none from I.ok.hd hc) it a hai its.toArray) he ⟨hit, p⟩ fun h' eb => ⟨rfl, I.turned (t' := s.toks) (fun b o hb q => eb b o hb q) f0 f1 f3 f4 f5⟩
  self := fun A i s Q E st h => let ⟨_, ⟨_, he⟩, _⟩ := st; wpAny_pyIter_enum he h
/-- enumerate(x), x a list or a tuple -/
def iEnumA (K : PySem.W.Frag) (te : TE) : TI := fun σ H R => te σ H fun v H1 => ∃ (a : Addr) (xs : List V), v = .ref a ∧ ((SqL K H1 a xs ∧ R (Ite K a) H1) ∨ (SqT K H1 a xs ∧ R (IteT K a xs.length) H1))
section
variable {X : Cx}
theorem pi_enumA {e : Expr} {te : TE} {p pos tpos : Pos} {elts : List Expr} {kk : Nat} (hg : Gl X "enumerate") (hm : X.mg "enumerate" = none) (he : PE X e te) (hs : starEach [e] X.env = (false, eval e X.env) :: starEach [] X.env := by rfl) :
    PI X (.Tuple elts kk tpos) (.Call (.Name "enumerate" p) [e] [] pos) (iEnumA X.K te) := by
  refine ⟨fun pins s σ H R I h => ?_⟩
  refine Call_ (ld_blt I hg hm PyProof.Rows.boot_enumerate (PyProof.Rows.callWith_type1 (args_cons (thn (he.run pins s σ H _ I h) fun u s1 ⟨v, H1, I1, r1, q1⟩ => args_nil ?_) hs) hs rfl))
  obtain ⟨a, xs, ev, q⟩ := q1
  subst ev
  obtain rfl : u = Value.ref a := r1
  have fresh2 : ∀ b, b ∈ [s1.heap.objs.size + 1, s1.heap.objs.size] → FpOk X pins H1 b := fun b hb => by
    have e' : b = s1.heap.objs.size + 1 ∨ b = s1.heap.objs.size := by simpa using hb
    have hle : s1.heap.objs.size ≤ b := by
      rcases e' with z | z
      · rw [z]; exact Nat.le_add_right _ _
      · rw [z]; exact Nat.le_refl _
    exact I1.fpOk hle (I1.hok.fresh hle)
  rcases q with ⟨hq, q⟩ | ⟨hq, q⟩
  · obtain ⟨its, rv, p', hz⟩ := I1.list hq
    refine call_enumerate_list p'.isList fun h' he hit hsz hk => wpAny_pyIter_enum he ?_
    have I2 : Inv X pins σ H1 { s1 with heap := h' } := I1.kept (t' := s1.toks) hk
    exact ⟨s1.heap.objs.size + 1, [s1.heap.objs.size + 1, s1.heap.objs.size], _, _, H1, rfl, I2, turn_enum a (s1.heap.objs.size + 1) s1.heap.objs.size, ⟨⟨.none, he⟩, hit, Nat.succ_ne_self _⟩, fresh2, q⟩
  · obtain ⟨its, rv, p', hz⟩ := I1.tuple hq
    obtain ⟨o1, ho1, _⟩ := id p'
    have hla := Heap.lt_size ho1
    refine call_enumT p' fun h' he hit hsz hk => wpAny_pyIter_enum he ?_
    have I2 : Inv X pins σ H1 { s1 with heap := h' } := I1.kept (t' := s1.toks) hk
    exact ⟨s1.heap.objs.size + 1, [s1.heap.objs.size + 1, s1.heap.objs.size], _, _, H1, rfl, I2, turn_enumT a (s1.heap.objs.size + 1) s1.heap.objs.size xs.length (Nat.ne_of_lt hla) (fun z => by rw [← z] at hla; exact absurd hla (Nat.not_lt.mpr (Nat.le_succ _))) (Nat.succ_ne_self _), ⟨Nat.zero_le _, ⟨.none, he⟩, hit⟩, fresh2, q⟩
end
section
variable {L : Lk} {lv : Nat} {se : SE} {X : Cx} {W : WX}
theorem enumI_get : ∀ (ds : List Dv) (k i : Nat) (d : Dv), (enumI k ds)[i]? = some d → ∃ x, ds[i]? = some x ∧ d = .tup [.int ((k + i : Nat) : Int), x]
  | [], k, i, d, h => by cases i <;> cases h
  | x :: r, k, 0, d, h => by
    cases h
    exact ⟨x, rfl, rfl⟩
  | x :: r, k, i + 1, d, h => by
    obtain ⟨y, e, q⟩ := enumI_get r (k + 1) i d h
    exact ⟨y, e, by rw [q, show k + 1 + i = k + (i + 1) by omega]⟩
theorem enumI_len : ∀ (ds : List Dv) (k : Nat), (enumI k ds).length = ds.length
  | [], _ => rfl
  | x :: r, k => by
    show (enumI (k + 1) r).length + 1 = r.length + 1
    rw [enumI_len r (k + 1)]
theorem walks_enum {a : Addr} {xs : List V} {ds : List Dv} {B S0 : Hp} (h : ∀ H, Sub B H → SqL L.G.K H a xs) (r : RepL L.G S0 xs ds) : Walks L (Ite L.G.K a) B S0 (enumI 0 ds) := fun H S i hb hs sub => by
  refine ⟨fun d hd => ?_, fun hi => ⟨xs, h H hb, by rw [enumI_len] at hi; rw [r.len]; exact hi⟩⟩
  obtain ⟨x0, hd2, rfl⟩ := enumI_get ds 0 i d hd
  rw [Nat.zero_add]
  obtain ⟨v, e, q⟩ := r.get hd2
  refine ⟨⟨xs, v, h H hb, e⟩, fun x H' ⟨T, y, e1, hT, e2, hy⟩ => ?_⟩
  have hy := hy xs (h H hb)
  rw [e] at hy
  cases hy
  subst e1 e2
  have n1 := sub.none hT
  exact ⟨_, Grow.add sub hT, .tup (.inl (.inl upd_same)) (by show 2 ≤ _; unfold LIM; omega) (.cons (.int _) (.cons ((q.mono hs).mono (.new n1)) .nil))⟩
theorem walks_enumT {a : Addr} {xs : List V} {ds : List Dv} {B S0 : Hp} (h : ∀ H, Sub B H → SqT L.G.K H a xs) (r : RepL L.G S0 xs ds) : Walks L (IteT L.G.K a xs.length) B S0 (enumI 0 ds) := fun H S i hb hs sub => by
  have hl := r.len
  refine ⟨fun d hd => ?_, fun hi => ⟨by rw [enumI_len] at hi; omega, xs, h H hb, rfl⟩⟩
  have hi : i < (enumI 0 ds).length := (List.getElem?_eq_some_iff.mp hd).1
  rw [enumI_len] at hi
  obtain ⟨x0, hd2, rfl⟩ := enumI_get ds 0 i d hd
  rw [Nat.zero_add]
  obtain ⟨v, e, q⟩ := r.get hd2
  refine ⟨⟨by omega, xs, v, h H hb, e⟩, fun x H' ⟨T, y, e1, hT, e2, hy⟩ => ?_⟩
  have hy := hy xs (h H hb)
  rw [e] at hy
  cases hy
  subst e1 e2
  have n1 := sub.none hT
  exact ⟨_, Grow.add sub hT, .tup (.inl (.inl upd_same)) (by show 2 ≤ _; unfold LIM; omega) (.cons (.int _) (.cons ((q.mono hs).mono (.new n1)) .nil))⟩
theorem i_enum (co : CallsOk L lv) (xo : XOk L lv se X) {b : Bool} {n : Nat} {a : Expr} {ma : Ex} {p pos tpos : Pos} {elts : List Expr} {kk : Nat} (hx : gloOf se "enumerate" = some .blt) (ha : cE n se a = some ma) (ia : PE X a (tE L lv ma W)) : PI X (.Tuple elts kk tpos) (.Call (.Name "enumerate" p) [a] [] pos) (tI L lv b (.enum ma) W) := by
  obtain ⟨gl, _⟩ := glo_blt xo hx
  have s1 := star_of ha [] X.env
  refine PI.imp (pi_enumA gl (blt_none co xo hx (by decide +kernel)) ia s1) fun σ H Q ⟨F, e, S, R, o⟩ => ?_
  rw [evalS] at o
  refine ⟨F, e, S, R, ?_⟩
  cases he : evalE (clI L.pg lv) ma e with
  | ex C t => rw [he] at o; exact o
  | no => rw [he] at o; exact o.elim
  | ok sx =>
    rw [he] at o
    have o : OutI L b W σ H S ((ofO (viewS b sx)).bind fun d => (ofO d.items).bind fun ds => .ok (enumI 0 ds)) Q := o
    cases hv : viewS b sx with
    | none => rw [hv] at o; exact o.elim
    | some d =>
      rw [hv] at o
      have o : OutI L b W σ H S ((ofO d.items).bind fun ds => .ok (enumI 0 ds)) Q := o
      intro v H1 S1 g r
      have go : ∃ S2, Grow H S H1 S2 ∧ RepB L.G (if b then S2 else H1) S2 v d := by
        cases b with
        | true =>
          unfold viewS at hv
          rw [if_pos rfl] at hv
          obtain ⟨S2, g2, s2, q⟩ := RepV.share2 g r hv
          exact ⟨S2, g2, q.b (.refl S2)⟩
        | false =>
          unfold viewS at hv
          rw [if_neg Bool.false_ne_true] at hv
          cases hv
          exact ⟨S1, g, r.b g.sub⟩
      obtain ⟨S2, g2, q⟩ := go
      cases d with
      | lst ds =>
        obtain ⟨a, xs, rfl, l, z, q⟩ := q
        refine ⟨a, xs, rfl, .inl ⟨?_, ?_⟩⟩
        · rw [xo.K]
          cases b with
          | true => exact g2.sub.sqL l
          | false => exact l
        · rw [xo.K]
          refine o _ H1 S2 g2 (walks_enum (xs := xs) (fun H hb => ?_) q) (by rw [enumI_len]; have := q.len; omega)
          cases b with
          | true => exact hb.sqL l
          | false => exact hb.sqL l
      | tup ds =>
        cases q with
        | tup l z q =>
          refine ⟨_, _, rfl, .inr ⟨by rw [xo.K]; exact g2.sub.sqT l, ?_⟩⟩
          rw [xo.K]
          refine o _ H1 S2 g2 (walks_enumT (fun H hb => ?_) q) (by rw [enumI_len]; have := q.len; omega)
          cases b with
          | true => exact hb.sqT l
          | false => exact (g2.sub.trans hb).sqT l
      | _ => exact o.elim
/-- list(range(a)), tuple(range(a)) -/
theorem rgV_rep (L : Lk) (S : Hp) (j : Int) : RepL L.G S (rgV 0 j) (rngI 0 j) := by
  unfold rgV rngI
  have : ∀ l : List Nat, RepL L.G S (l.map fun i => V.int (0 + (i : Nat))) (l.map fun (i : Nat) => Dv.int (0 + (i : Int))) := fun l => by
    induction l with
    | nil => exact .nil
    | cons i r ih => exact .cons (.int _) ih
  exact this _
theorem e_rngL (co : CallsOk L lv) (xo : XOk L lv se X) {n : Nat} {a : Expr} {ma : Ex} {p p2 pos pos2 : Pos} (hx : gloOf se "list" = some .blt) (hy : gloOf se "range" = some .blt) (ha : cE n se a = some ma) (ia : PE X a (tE L lv ma W)) :
    PE X (.Call (.Name "list" p) [.Call (.Name "range" p2) [a] [] pos2] [] pos) (tE L lv (.rngL (.cst (.int 0)) ma) W) := by
  obtain ⟨g1, _⟩ := glo_blt xo hx
  obtain ⟨g2, _⟩ := glo_blt xo hy
  have s1 := star_of ha [] X.env
  refine PE.imp (pe_listRg xo.calm g1 (blt_none co xo hx (by decide +kernel)) (prg_1 g2 (blt_none co xo hy (by decide +kernel)) ia s1)) fun σ H Q ⟨F, e, S, R, o⟩ => ?_
  rw [evalE, evalE] at o
  have o : Out L.G W σ H S ((evalE (clI L.pg lv) ma e).bind fun y => match (Dv.int 0), y.toD with
    | .int i, .int j => if rOk i ∧ rOk j ∧ (j - i).toNat ≤ LIM then .ok (.l1 (rngI i j)) else .no
    | _, _ => .no) Q := o
  refine tE.bind R (P := fun r => Out L.G W σ H S r Q) outX outN o fun sx v H1 S1 g1 R1 r1 o1 => ?_
  split at o1
  · rename_i i j hi hj
    cases hi
    split at o1
    · rename_i hr
      have l1 := hr.2.2
      unfold LIM at l1
      refine ⟨j, by rw [int_of R1.sub r1 hj], ⟨by omega, by omega, hr.2.1.1, hr.2.1.2, by simpa using l1⟩, fun q hq => ?_⟩
      exact o1 _ _ _ (g1.trans (Grow.own g1.sub hq)) ⟨q, _, rfl, upd_same, by rw [rgV_length]; unfold LIM; omega, rgV_rep L S1 j, g1.sub.none hq, g1.h.none hq⟩
    · exact o1.elim
  · exact o1.elim
theorem e_rngT (co : CallsOk L lv) (xo : XOk L lv se X) {n : Nat} {a : Expr} {ma : Ex} {p p2 pos pos2 : Pos} (hx : gloOf se "tuple" = some .blt) (hy : gloOf se "range" = some .blt) (ha : cE n se a = some ma) (ia : PE X a (tE L lv ma W)) :
    PE X (.Call (.Name "tuple" p) [.Call (.Name "range" p2) [a] [] pos2] [] pos) (tE L lv (.rngT (.cst (.int 0)) ma) W) := by
  obtain ⟨g1, _⟩ := glo_blt xo hx
  obtain ⟨g2, _⟩ := glo_blt xo hy
  have s1 := star_of ha [] X.env
  refine PE.imp (pe_tupRg xo.calm g1 (blt_none co xo hx (by decide +kernel)) (prg_1 g2 (blt_none co xo hy (by decide +kernel)) ia s1)) fun σ H Q ⟨F, e, S, R, o⟩ => ?_
  rw [evalE, evalE] at o
  have o : Out L.G W σ H S ((evalE (clI L.pg lv) ma e).bind fun y => match (Dv.int 0), y.toD with
    | .int i, .int j => if rOk i ∧ rOk j ∧ (j - i).toNat ≤ LIM then .ok (.sh (.tup (rngI i j))) else .no
    | _, _ => .no) Q := o
  refine tE.bind R (P := fun r => Out L.G W σ H S r Q) outX outN o fun sx v H1 S1 g1 R1 r1 o1 => ?_
  split at o1
  · rename_i i j hi hj
    cases hi
    split at o1
    · rename_i hr
      have l1 := hr.2.2
      unfold LIM at l1
      refine ⟨j, by rw [int_of R1.sub r1 hj], ⟨by omega, by omega, hr.2.1.1, hr.2.1.2, by simpa using l1⟩, fun q hq => ?_⟩
      have n1 := g1.sub.none hq
      exact o1 _ _ _ (g1.trans (Grow.add g1.sub hq)) (.tup (.inl (.inl upd_same)) (by rw [rgV_length]; unfold LIM; omega) ((rgV_rep L S1 j).mono (.new n1)))
    · exact o1.elim
  · exact o1.elim
end
end Dg

/-! The evaluator is sound: tuple(reversed(x)), list(reversed(x)), x a tuple or a list. -/
namespace Dg
open PySem PySem.Spec PyProof.Rows L2 RT
theorem nolen_rt : typeLookup (.type "reversed") "__len__" = pure none := by rw [typeLookup_type, builtinLookup_eq_fast]; kernel_rfl
theorem slot_rt_hint : Slot "reversed" "__length_hint__" "reversed.__length_hint__" :=
  .of (owner := "reversed") (n := "__length_hint__") (by rw [typeLookup_type, builtinLookup_eq_fast]; kernel_rfl) (by decide +kernel) (by decide +kernel) (by decide +kernel)
    (by first | exact .inl (by decide +kernel) | exact .inr (by decide +kernel)) (by rw [isSubtype_type]; kernel_rfl)
theorem entry_rt_hint : entryFor table "reversed.__length_hint__" = some Builtin.«reversed.__length_hint__» := entryFor_of_tree (by kernel_rfl)
theorem args_rt_hint (a : Value) : argsOk "reversed.__length_hint__" ⟨[a], []⟩ := by
  unfold argsOk; rw [signature?_of (id := "reversed.__length_hint__") (n := ['_', '_', 't', 'n', 'i', 'h', '_', 'h', 't', 'g', 'n', 'e', 'l', '_', '_']) (o := ['d', 'e', 's', 'r', 'e', 'v', 'e', 'r']) (by kernel_rfl) owner_rt]; kernel_rfl
theorem tup_at {h h' : Heap} {t : Addr} {items : Array Value} (x : IsTup h t items) (e : ∀ o, h.get? t = some o → h'.get? t = some o) : IsTup h' t items := let ⟨o, ho, r⟩ := x; ⟨o, e _ ho, r⟩
section
variable {prog : Program} {w : World} {A : Around} {E : Value → Shared → Prop} {s : Shared}
theorem hint_rt {it t : Addr} {items : Array Value} {Q : Bool → Shared → Prop} (hit : IsRt s.heap it t ((items.size : Int) - 1)) (ht : IsTup s.heap t items) (hsz : items.size ≤ sizeLine)
    (h : ∀ b tk, Q b { s with toks := tk }) : wpAny (model prog w) A (Builtin.List.listLengthHint (.ref it)) Q E s := by
  have hT := hit.typeIs
  obtain ⟨o, ho, hc, hd⟩ := id hit
  rw [sizeLine_eq] at hsz
  unfold Builtin.List.listLengthHint
  refine wpAny_bind (wpAny_specialOf hT nolen_rt ?_)
  show wpAny _ A (specialOf (Value.ref it) (Str.ofString "__length_hint__") >>= _) _ _ _
  refine wpAny_bind (wpAny_specialOf hT slot_rt_hint.lookup ?_)
  generalize hid : ("reversed.__length_hint__" : String) = id0
  wp_delta
  rw [show splitId id0 = some ("reversed", "__length_hint__") from by subst hid; decide +kernel]
  subst hid
  refine wpAny_bind (wpAny_isInstance (T := "reversed") (b := true) hT (by rw [isSubtype_type]; kernel_rfl) ?_)
  refine wpAny_ite_split (fun hab => absurd hab (by decide)) (fun _ => ?_)
  refine wpAny_ite_split (fun hab => absurd hab (by decide +kernel)) (fun _ => ?_)
  refine wpAny_bind (wpAny_rule ?_)
  rw [slot_rt_hint.bind]
  refine wpAny_bind (wpAny_pure ?_)
  try dsimp only
  refine wpAny_bind (wpAny_attempt (wpAny_call_entry slot_rt_hint hT entry_rt_hint ?_ (args_rt_hint _)))
  unfold Builtin.«reversed.__length_hint__»
  refine wpAny_bind (wpAny_of_eq (a := Value.ref it) rfl ?_)
  try dsimp only
  refine wpAny_bind (wpAny_field ho hd (x := .ref t) rfl ?_)
  show wpAny _ _ (if (Value.ref t == Value.none) = true then _ else _) _ _ s
  rw [if_neg (show ¬ ((Value.ref t == Value.none) = true) from Bool.false_ne_true)]
  refine wpAny_bind (PyProof.Rows.len_tuple ht (by omega) ?_)
  refine wpAny_bind (wpAny_of_eq (a := some ((items.size : Nat) : Int)) rfl ?_)
  try dsimp only
  refine wpAny_bind (wpAny_field (s := { s with toks := s.toks + 1 + 1 }) ho hd (x := rawInt ((items.size : Int) - 1)) rfl ?_)
  show wpAny _ _ (if ((items.size : Nat) : Int) < (items.size : Int) - 1 + 1 then _ else _) _ _ _
  rw [if_neg (by omega)]
  unfold retInt
  refine wpAny_bind (wpAny_mkInt ?_)
  refine wpAny_pure ⟨_, rfl, ?_⟩
  try dsimp only
  refine wpAny_bind (wpAny_of_eq (a := some ((items.size : Int) - 1 + 1)) rfl ?_)
  try dsimp only
  have e0 : (items.size : Int) - 1 + 1 = (items.size : Int) := by omega
  rw [e0]
  have f1 : Builtin.List.listFitsIndex (items.size : Int) = true := by
    unfold Builtin.List.listFitsIndex
    rw [Bool.and_eq_true, decide_eq_true_eq, decide_eq_true_eq]
    omega
  have f2 : Builtin.List.listTooLong ((items.size : Int)).toNat = false := by
    unfold Builtin.List.listTooLong
    rw [sizeLine_eq]
    exact decide_eq_false (by omega)
  rw [if_neg (by rw [f1]; decide), if_neg (by omega), if_neg (by rw [f2]; decide)]
  exact wpAny_pure (h _ _)
theorem Walks_rt (hh : A.handled = none) (I t : Addr) (hne : t ≠ I) (items : Array Value) (hz : items.size ≤ sizeLine) :
    PySem.Walks prog w A I [I, t] [I] items.size (fun i v => items[items.size - 1 - i]? = some v) (fun i h => i ≤ items.size ∧ IsRt h I t ((items.size : Int) - 1 - (i : Int)) ∧ IsTup h t items) where
  sub := fun b hb => by simp at hb; simp [hb]
  frame := fun _ _ _ x hk => ⟨x.1, x.2.1.at fun o e => hk I (by simp) o e, tup_at x.2.2 fun o e => hk t (by simp) o e⟩
  item := fun i s Q E hi x hQ => by
    have e : (items.size : Int) - 1 - (i : Int) = ((items.size - 1 - i : Nat) : Int) := by omega
    have hit := x.2.1
    rw [e] at hit
    have hx : items[items.size - 1 - i]? = some (items[items.size - 1 - i]'(by omega)) := Array.getElem?_eq_getElem (by omega)
    refine next_rt_item hit x.2.2 hx hz fun h' hit' hs' => ?_
    have e2 : ((items.size - 1 - i : Nat) : Int) - 1 = (items.size : Int) - 1 - ((i + 1 : Nat) : Int) := by omega
    rw [e2] at hit'
    exact hQ _ h' _ hx ⟨hi, hit', tup_at x.2.2 fun o eo => (hs'.2 t hne).trans eo⟩ fun b o hb eo => hs'.extBut b o (fun h => hb (by simp [h])) eo
  done := fun s Q E x hQ => by
    have e : (items.size : Int) - 1 - (items.size : Int) = -1 := by omega
    have hit := x.2.1
    rw [e] at hit
    exact next_rt_end hh hit fun h' he' => hQ h' s.toks fun b o hb eo => he' b o (fun h => hb (by simp [h])) eo
  self := fun _ _ _ _ x hQ => iter_rt x.2.1 hQ
theorem collect_rt {it t : Addr} {items : Array Value} {Q : List Value → Shared → Prop} (hh : A.handled = none) (hit : IsRt s.heap it t ((items.size : Int) - 1)) (hl : IsTup s.heap t items) (hne : t ≠ it) (hn : items.size ≤ sizeLine)
    (hQ : ∀ (h' : Heap) (tk : Nat) (acc : Array Value), (∀ b o, b ≠ it → s.heap.get? b = some o → h'.get? b = some o) → ItemsOf (fun i v => items[items.size - 1 - i]? = some v) acc items.size → Q acc.toList { s with heap := h', toks := tk }) :
    wpAny (model prog w) A (collect (.ref it)) Q E s := by
  have W := (Walks_rt (prog := prog) (w := w) (A := A.in1) hh it t hne items hn).toS
  obtain ⟨oi, hoi, _⟩ := id hit
  obtain ⟨ol, hol, _⟩ := id hl
  have hSi : s.heap.objs.size ≠ it := Nat.ne_of_gt (Heap.lt_size hoi)
  have hSl : s.heap.objs.size ≠ t := Nat.ne_of_gt (Heap.lt_size hol)
  have hSf : s.heap.objs.size ∉ [it, t] := by simp only [List.mem_cons, List.not_mem_nil, or_false, not_or]; exact ⟨hSi, hSl⟩
  unfold collect
  refine wpAny_bind (wpAny_runValue (codeAny_builtin F.entry_proto_collect ?_))
  rw [Around.under_plainId F.plain_proto_collect _]
  show wpAny _ A.in1 (newList [] >>= fun l' => again (.builtin "list.__iadd__" ⟨[l', .ref it], []⟩)) _ _ s
  refine wpAny_bind (wpAny_newObj_type ?_)
  refine wpAny_pure ⟨plainId_quiet F.plain_list_iadd _, codeAny_builtin F.entry_list_iadd ?_⟩
  rw [Around.under_plainId F.plain_list_iadd _]
  have hS₁ : (s.heap.push { cls := .type "list", data := .seq ([] : List Value).toArray }).get? s.heap.objs.size = some { cls := .type "list", data := .seq ([] : List Value).toArray } := Heap.get?_push_size _ rfl
  have hit1 : IsRt (s.heap.push { cls := .type "list", data := .seq ([] : List Value).toArray }) it t ((items.size : Int) - 1) := hit.at fun o e => Heap.get?_push_of_some _ e
  have hl1 : IsTup (s.heap.push { cls := .type "list", data := .seq ([] : List Value).toArray }) t items := tup_at hl fun o e => Heap.get?_push_of_some _ e
  have hT : ({ s with heap := s.heap.push { cls := .type "list", data := .seq ([] : List Value).toArray } } : Shared).TypeIs (.ref it) "reversed" := IsRt.typeIs (s := { s with heap := s.heap.push { cls := .type "list", data := .seq ([] : List Value).toArray } }) hit1
  have h1 : Builtin.List.listSameRef (.ref s.heap.objs.size) (.ref it) = false := by simp [Builtin.List.listSameRef, hSi]
  show wpAny _ A.in1 (Builtin.List.listExtendWith (.ref s.heap.objs.size) (.ref it) (.ref s.heap.objs.size)) _ _ _
  unfold Builtin.List.listExtendWith
  refine wpAny_bind (wpAny_typeOf hT ?_)
  rw [if_neg (by rw [h1]; decide)]
  refine wpAny_bind (iter_rt (s := { s with heap := s.heap.push { cls := .type "list", data := .seq ([] : List Value).toArray } }) hit1 ?_)
  refine wpAny_bind (wpAny_holding ?_)
  refine hint_rt (s := { s with heap := s.heap.push { cls := .type "list", data := .seq ([] : List Value).toArray } }) hit1 hl1 hn fun b tk => ?_
  have e0 : ((items.size : Nat) : Int) - 1 - ((0 : Nat) : Int) = (items.size : Int) - 1 := by omega
  have last : ∀ (s' : Shared) (acc' : Array Value) (c' : Nat), Moved (s.heap.objs.size :: [it]) (fun a b => b = a) { s with heap := s.heap.push { cls := .type "list", data := .seq ([] : List Value).toArray }, toks := tk } s' → s'.heap.get? s.heap.objs.size = some { cls := .type "list", dict := none, data := .seq acc' c', slots := #[] } → ItemsOf (fun i v => items[items.size - 1 - i]? = some v) acc' items.size → Q acc'.toList s' := fun s' acc' c' hm hS' hacc => by
    rw [Moved.eq_with hm]
    refine hQ s'.heap s'.toks acc' (fun b o hb e => hm.heap b o (fun hmem => ?_) (Heap.get?_push_of_some _ e)) hacc
    rcases List.mem_cons.mp hmem with e' | hmem
    · exact absurd (Heap.lt_size e) (by rw [e']; exact Nat.lt_irrefl _)
    · exact hb (List.mem_singleton.mp hmem)
  cases b with
  | false =>
    rw [if_neg (by decide)]
    refine wpAny_pure ⟨plainId_quiet F.plain_extend_loop _, codeAny_extend_loopS W hn _ hSf _ items.size 0 _ _ _ rfl (Nat.zero_le _) ⟨Nat.zero_le _, by rw [e0]; exact hit1, hl1⟩ hS₁ (ItemsOf.nil _) fun s' acc' c' hm hS' hacc => ?_⟩
    show wpAny _ A (load s.heap.objs.size >>= _) _ _ s'
    refine wpAny_bind (wpAny_load hS' ?_)
    exact wpAny_pure (last s' acc' c' hm hS' hacc)
  | true =>
    rw [if_pos (by decide)]
    show wpAny _ A.in1 (rule "list.extend.makes-room" >>= fun _ => Builtin.List.listTouch (.ref s.heap.objs.size) >>= fun _ =>
      again (.builtin "list.extend.loop" ⟨[.ref s.heap.objs.size, .ref it, .ref s.heap.objs.size], []⟩)) _ _ _
    refine wpAny_bind (wpAny_rule ?_)
    refine wpAny_bind ?_
    show wpAny _ A.in1 (updateSeq s.heap.objs.size (·.push .none) >>= fun _ => updateSeq s.heap.objs.size (·.pop)) _ _ _
    refine wpAny_bind (wpAny_updateSeq hS₁ rfl ?_)
    have hS₂ := Heap.get?_update_self (Obj.mapSeq (·.push Value.none)) hS₁ rfl
    refine wpAny_updateSeq hS₂ rfl ?_
    have hS₃ := Heap.get?_update_self (Obj.mapSeq (·.pop)) hS₂ rfl
    have oth : ∀ b o, b ≠ s.heap.objs.size → (s.heap.push { cls := .type "list", data := .seq ([] : List Value).toArray }).get? b = some o →
        (((s.heap.push { cls := .type "list", data := .seq ([] : List Value).toArray }).update s.heap.objs.size (Obj.mapSeq (·.push Value.none))).update s.heap.objs.size (Obj.mapSeq (·.pop))).get? b = some o :=
      fun b o hb e => (Heap.get?_update_other _ _ (Ne.symm hb)).trans ((Heap.get?_update_other _ _ (Ne.symm hb)).trans e)
    refine wpAny_pure ⟨plainId_quiet F.plain_extend_loop _, codeAny_extend_loopS W hn _ hSf _ items.size 0 _ _ _ rfl (Nat.zero_le _)
      ⟨Nat.zero_le _, by rw [e0]; exact hit1.at fun o e => oth it o (Ne.symm hSi) e, tup_at hl1 fun o e => oth t o (Ne.symm hSl) e⟩ hS₃ (ItemsOf.nil _) fun s' acc' c' hm hS' hacc => ?_⟩
    show wpAny _ A (load s.heap.objs.size >>= _) _ _ s'
    refine wpAny_bind (wpAny_load hS' ?_)
    have m0 : Moved (s.heap.objs.size :: [it]) (fun a b => b = a) ({ s with heap := s.heap.push { cls := .type "list", data := .seq ([] : List Value).toArray }, toks := tk } : Shared)
        { s with heap := ((s.heap.push { cls := .type "list", data := .seq ([] : List Value).toArray }).update s.heap.objs.size (Obj.mapSeq (·.push Value.none))).update s.heap.objs.size (Obj.mapSeq (·.pop)), toks := tk } :=
      (Moved.refl (wr := s.heap.objs.size :: [it]) (G := fun a b => b = a) (s := ({ s with heap := s.heap.push { cls := .type "list", data := .seq ([] : List Value).toArray }, toks := tk } : Shared)) W.grefl).then_heap (Nat.le_refl _) fun b o hb e => oth b o (fun h => hb (by rw [h]; exact List.mem_cons_self)) e
    exact wpAny_pure (last s' acc' c' (Moved.trans W.gtrans m0 hm) hS' hacc)
theorem code_tuple_new_rt {it l : Addr} {items : Array Value} {Q₁ : Value → Shared → Prop} (hh : A.handled = none) (hit : IsRt s.heap it l ((items.size : Int) - 1)) (hl : IsTup s.heap l items) (hne : l ≠ it) (hn : items.size ≤ sizeLine)
    (h : ∀ (h' : Heap) (tk : Nat) (acc : Array Value), (∀ b o, b ≠ it → s.heap.get? b = some o → h'.get? b = some o) → ItemsOf (fun i v => items[items.size - 1 - i]? = some v) acc items.size →
      Q₁ (.ref h'.objs.size) { s with heap := h'.push { cls := .type "tuple", data := .seq acc }, toks := tk }) :
    codeAny (model prog w) A (.call (.builtin "tuple.__new__") ⟨[.type "tuple", .ref it], []⟩) (wants Q₁ E) s := by
  refine codeAny_of_tree ?_
  show wpAny _ A.in1 (do checkBuiltinCall "tuple.__new__" ⟨[.type "tuple", .ref it], []⟩; again (.builtin "tuple.__new__" ⟨[.type "tuple", .ref it], []⟩)) _ _ s
  refine wpAny_bind (wpAny_of_eq (F.newCall_tuple_1 _) (wpAny_pure ⟨plainId_quiet F.plain_tuple_new _, codeAny_builtin F.entry_tuple_new ?_⟩))
  rw [Around.under_plainId F.plain_tuple_new _]
  have hsub := sub_tuple_self
  have hinit := init_tuple_lookup
  have hmh := madeHere_tuple
  have hTI : s.TypeIs (.ref it) "reversed" := hit.typeIs
  have hh1 : A.in1.handled = none := hh
  wp_walk using wpAny_typeOf hTI, collect_rt (A := A.in1) hh1 hit hl hne hn
  intro h' tk acc hk hacc
  show wpAny _ _ (Builtin.Tuple.tupleExact acc.toList.toArray >>= fun v => ret v) _ _ _
  unfold Builtin.Tuple.tupleExact
  refine wpAny_bind (wpAny_newObj_type ?_ (by show acc.toList.toArray.size ≤ sizeLine; simp only [Array.toArray_toList]; rw [hacc.1]; exact hn))
  refine wpAny_pure ?_
  have e : acc.toList.toArray = acc := by simp
  rw [e]
  exact h h' tk acc hk hacc
theorem call_tuple_rt {it l : Addr} {items : Array Value} {Q : Value → Shared → Prop} (hh : A.handled = none) (hit : IsRt s.heap it l ((items.size : Int) - 1)) (hl : IsTup s.heap l items) (hne : l ≠ it) (hn : items.size ≤ sizeLine)
    (hQ : ∀ (h' : Heap) (tk : Nat) (acc : Array Value), (∀ b o, b ≠ it → s.heap.get? b = some o → h'.get? b = some o) → ItemsOf (fun i v => items[items.size - 1 - i]? = some v) acc items.size →
      Q (.ref h'.objs.size) { s with heap := h'.push { cls := .type "tuple", data := .seq acc }, toks := tk }) :
    wpAny (model prog w) A (call (.type "tuple") [.ref it]) Q E s := by
  refine callType_codes (Q₁ := fun obj s₁ => s₁.TypeIs obj "tuple" ∧ Q obj s₁) F.called_tuple (F.typeCall_tuple_1 _) F.entry_object_init
    (code_tuple_new_rt (A := A.in1) hh hit hl hne hn fun h' tk acc hk hacc => ⟨⟨_, Heap.get?_push_size _ rfl, rfl⟩, hQ h' tk acc hk hacc⟩) fun obj s₁ h₁ => ?_
  exact ⟨h₁.1, F.args_object_init_2 obj _, object_init_meets F.called_tuple.init.lookup F.called_tuple.made (by decide) prog w A.in1 _ s₁ ⟨h₁.1, rfl, h₁.2⟩⟩
end
section
variable {X : Cx}
def tTupRevT (K : PySem.W.Frag) (te : TE) : TE := fun σ H Q => te σ H fun v H1 => ∃ (a : Addr) (xs : List V), v = .ref a ∧ (SqL K H1 a xs ∨ SqT K H1 a xs) ∧ ∀ q, H1 q = none → Q (.ref q) (upd H1 q (.tup xs.reverse))
theorem pe_tupRevA {e : Expr} {te : TE} {p p2 pos pos2 : Pos} (hc : X.calm = true) (hg : Gl X "tuple") (hm : X.mg "tuple" = none) (hg2 : Gl X "reversed") (hm2 : X.mg "reversed" = none) (he : PE X e te)
    (hs : starEach [e] X.env = (false, eval e X.env) :: starEach [] X.env := by rfl)
    (hs2 : starEach [.Call (.Name "reversed" p2) [e] [] pos2] X.env = (false, eval (.Call (.Name "reversed" p2) [e] [] pos2) X.env) :: starEach [] X.env := by rfl) :
    PE X (.Call (.Name "tuple" p) [.Call (.Name "reversed" p2) [e] [] pos2] [] pos) (tTupRevT X.K te) := by
  refine ⟨fun pins s σ H Q I h => ?_⟩
  refine Call_ (ld_blt I hg hm boot_tuple (PyProof.Rows.callWith_type1 (args_cons (Call_ (ld_blt I hg2 hm2 PyProof.Rows.boot_reversed (PyProof.Rows.callWith_type1 (args_cons (thn (he.run pins s σ H _ I h) fun u s1 ⟨v, H1, I1, r1, q1⟩ => args_nil ?_) hs) hs rfl))) hs2) hs2 rfl))
  obtain ⟨a, xs, ev, hq, q⟩ := q1
  subst ev
  obtain rfl : u = Value.ref a := r1
  rcases hq with hq | hq
  · obtain ⟨its, rv, p', hz⟩ := I1.list hq
    refine call_reversed_list p'.isList (args_nil ?_)
    have k0 : ∀ b o, s1.heap.get? b = some o → (s1.heap.push (revObj a ((its.toArray.size : Int) - 1))).get? b = some o := fun b o e => Heap.get?_push_of_some _ e
    have I2 : Inv X pins σ H1 { s1 with heap := s1.heap.push (revObj a ((its.toArray.size : Int) - 1)) } := I1.kept (t' := s1.toks) k0
    obtain ⟨f0, f1, f2, f3, f4, f5⟩ := I1.fpOk (H' := H1) (b := s1.heap.objs.size) (Nat.le_refl _) (I1.hok.fresh (Nat.le_refl _))
    have hl := p'.isList
    obtain ⟨ol, hol, _⟩ := id hl
    have hne : a ≠ s1.heap.objs.size := Nat.ne_of_lt (Heap.lt_size hol)
    have hn : its.toArray.size ≤ sizeLine := by rw [List.size_toArray, ← rv.length]; exact hz
    refine call_tuple_rev (s := { s1 with heap := s1.heap.push (revObj a ((its.toArray.size : Int) - 1)) }) (I1.ok.hd hc) ⟨_, Heap.get?_push_size _ rfl, rfl, rfl⟩ (hl.push _) hne hn fun h' tk acc hk hi => ?_
    have I3 : Inv X pins σ H1 { s1 with heap := h', toks := tk } := I2.turned (t' := tk) (fun b o hb e => hk b o hb e) f0 f1 f3 f4 f5
    refine ⟨.ref h'.objs.size, upd H1 h'.objs.size (.tup xs.reverse), I3.laid (t' := tk) (fun c o e => Heap.get?_push_of_some _ e) (Nat.le_refl _) (show ObjOk X.prog X.w _ _ _ (.tup xs.reverse) from ⟨by rw [List.length_reverse]; exact hz, acc.toList, vals_rev rv hi, ?_⟩), rfl, q _ (I3.hok.fresh (Nat.le_refl _))⟩
    rw [Array.toArray_toList]
    exact IsTup.new _ _
  · obtain ⟨its, rv, p', hz⟩ := I1.tuple hq
    have hn : its.toArray.size ≤ sizeLine := by rw [List.size_toArray, ← rv.length]; exact hz
    have hn2 := hn
    rw [sizeLine_eq] at hn2
    refine call_reversed_tup p' (fun A E Q k => PyProof.Rows.len_tuple p' (by omega) k) (args_nil ?_)
    have k0 : ∀ b o, s1.heap.get? b = some o → (s1.heap.push (rtObj a ((its.toArray.size : Int) - 1))).get? b = some o := fun b o e => Heap.get?_push_of_some _ e
    have I2 : Inv X pins σ H1 { s1 with heap := s1.heap.push (rtObj a ((its.toArray.size : Int) - 1)), toks := s1.toks + 1 + 1 } := I1.kept (t' := s1.toks + 1 + 1) k0
    obtain ⟨f0, f1, f2, f3, f4, f5⟩ := I1.fpOk (H' := H1) (b := s1.heap.objs.size) (Nat.le_refl _) (I1.hok.fresh (Nat.le_refl _))
    obtain ⟨ol, hol, _⟩ := id p'
    have hne : a ≠ s1.heap.objs.size := Nat.ne_of_lt (Heap.lt_size hol)
    refine call_tuple_rt (s := { s1 with heap := s1.heap.push (rtObj a ((its.toArray.size : Int) - 1)), toks := s1.toks + 1 + 1 }) (I1.ok.hd hc) ⟨_, Heap.get?_push_size _ rfl, rfl, rfl⟩ (tup_at p' fun o e => Heap.get?_push_of_some _ e) hne hn fun h' tk acc hk hi => ?_
    have I3 : Inv X pins σ H1 { s1 with heap := h', toks := tk } := I2.turned (t' := tk) (fun b o hb e => hk b o hb e) f0 f1 f3 f4 f5
    refine ⟨.ref h'.objs.size, upd H1 h'.objs.size (.tup xs.reverse), I3.laid (t' := tk) (fun c o e => Heap.get?_push_of_some _ e) (Nat.le_refl _) (show ObjOk X.prog X.w _ _ _ (.tup xs.reverse) from ⟨by rw [List.length_reverse]; exact hz, acc.toList, vals_rev rv hi, ?_⟩), rfl, q _ (I3.hok.fresh (Nat.le_refl _))⟩
    rw [Array.toArray_toList]
    exact IsTup.new _ _
end
section
variable {L : Lk} {lv : Nat} {se : SE} {X : Cx} {W : WX}
theorem e_revT (co : CallsOk L lv) (xo : XOk L lv se X) {n : Nat} {a : Expr} {ma : Ex} {p p2 pos pos2 : Pos} (hx : gloOf se "tuple" = some .blt) (hy : gloOf se "reversed" = some .blt) (ha : cE n se a = some ma) (ia : PE X a (tE L lv ma W)) :
    PE X (.Call (.Name "tuple" p) [.Call (.Name "reversed" p2) [a] [] pos2] [] pos) (tE L lv (.revT ma) W) := by
  obtain ⟨g1, _⟩ := glo_blt xo hx
  obtain ⟨g2, _⟩ := glo_blt xo hy
  have s1 := star_of ha [] X.env
  refine PE.imp (pe_tupRevA xo.calm g1 (blt_none co xo hx (by decide +kernel)) g2 (blt_none co xo hy (by decide +kernel)) ia s1) fun σ H Q ⟨F, e, S, R, o⟩ => ?_
  rw [xo.K]
  rw [evalE] at o
  refine tE.bind R (P := fun r => Out L.G W σ H S r Q) outX outN o fun sx v H1 S1 g1 R1 r1 o1 => ?_
  have rb := r1.b R1.sub
  split at o1
  · rename_i xs hd
    rw [hd] at rb
    obtain ⟨b, ys, rfl, l, z, q⟩ := rb
    have lq := q.len
    refine ⟨b, ys, rfl, .inl l, fun t ht => ?_⟩
    have n1 := g1.sub.none ht
    exact o1 _ _ _ (g1.trans (Grow.add g1.sub ht)) (.tup (.inl (.inl upd_same)) (by rw [List.length_reverse]; exact z) (q.reverse.mono (.new n1)))
  · rename_i xs hd
    rw [hd] at rb
    cases rb with
    | tup l z q =>
      have lq := q.len
      refine ⟨_, _, rfl, .inr (R1.sub.sqT l), fun t ht => ?_⟩
      have n1 := g1.sub.none ht
      exact o1 _ _ _ (g1.trans (Grow.add g1.sub ht)) (.tup (.inl (.inl upd_same)) (by rw [List.length_reverse]; exact z) (q.reverse.mono (.new n1)))
  · exact o1.elim
theorem few2 {n : Nat} {e : Expr} {es : List Expr} {ms : Exs} (hes : cEs n se (e :: es) = some ms) (hn : Nat.blt (e :: es).length 30 = true) (env : PySem.Env) (pos : Pos) : ((backTo pos (starEach (e :: es) env)).all (fun x => !x.1) && (backToKw pos (keywordEach [] env)).all (fun x => x.1.isSome)
      && decide ((e :: es).length + ([] : List Keyword).length + (if ([] : List Keyword).isEmpty then 0 else 1) < 30)) = true := by
  have h1 := all_not (nostar (n := n) (env := env) (pos := pos) hes)
  have h2 : (e :: es).length < 30 := by
    have := Nat.ble_eq.mp hn
    omega
  rw [h1]
  have h3 : backToKw pos (keywordEach [] env) = [] := rfl
  rw [h3]
  simpa using h2
theorem toPs_get : ∀ (xs : List Dv) (j : Nat) (z : PyData), (toPs xs)[j]? = some z ↔ ∃ d, xs[j]? = some d ∧ z = toP d
  | [], j, z => by
    show (([] : List PyData)[j]? = some z) ↔ _
    simp
  | x :: r, 0, z => by
    show (some (toP x) = some z) ↔ _
    simp [eq_comm]
  | x :: r, j + 1, z => by
    show ((toPs r)[j]? = some z) ↔ _
    rw [toPs_get r j z]
    simp
theorem e_lix (xo : XOk L lv se X) {n : Nat} {a b : Expr} {ma : Ex} {ms : Exs} {ap pos : Pos} (hb : bareCall a = false) (hl : Nat.beq ap.endLine pos.line = true) (hn : Nat.blt [b].length 30 = true) (hes : cEs n se [b] = some ms) (ia : PE X a (tE L lv ma W)) (ib : PA X [b] (tAB L lv ms W)) :
    PE X (.Call (.Attribute a "index" ap) [b] [] pos) (tE L lv (.lix ma ms) W) := by
  obtain ⟨s1, s2⟩ := args_star hes X.env pos
  refine PE.imp (pe_bm PySem.F.plainAttrs_list PySem.F.slot_list_index PySem.F.type_list_index (mt_indexD (by have := hu_X xo; omega)) ia ib (base_of hb _ _ _) (few2 hes hn _ _) (by rw [beq_iff_eq]; exact Nat.eq_of_beq_eq_true hl) s1 s2) fun σ H Q ⟨F, e, S, R, o⟩ => ?_
  rw [xo.K]
  rw [evalE] at o
  refine tE.bind R (P := fun r => Out L.G W σ H S r Q) outX outN o fun sx v H1 S1 g1 R1 r1 o1 => ?_
  have rb := r1.b R1.sub
  split at o1
  · rename_i xs hd
    rw [hd] at rb
    obtain ⟨p, ys, rfl, l, z, q⟩ := rb
    refine ⟨.inl ⟨rfl, ys, l⟩, ?_⟩
    refine tAB.bind R1 (P := fun r => Out L.G W σ H S r Q) (fun C t h H2 S2 g => outX C t h H2 S2 (g1.trans g)) outN o1 fun ds vs H2 S2 _ g2 R2 r2 o2 => ?_
    match vs, ds, r2 with
    | [u], [d], ⟨ru, _⟩ =>
      have o2 : Out L.G W σ H S (if okD (.lst xs) && okD d then match xs.findIdx? fun z => eqD z d with
        | some j => .ok (.sh (.int (j : Nat)))
        | none => .no
        else .no) Q := o2
      split at o2
      · rename_i hok
        obtain ⟨h1, h2⟩ := Bool.and_eq_true_iff.mp hok
        split at o2
        · rename_i j hj
          obtain ⟨hjl, hjz, hjm⟩ := List.findIdx?_eq_some_iff_getElem.mp hj
          have rb2 := (r1.mono g2).b R2.sub
          rw [hd] at rb2
          have dl := RepB.dp R2.sub rb2 (SeqAt.canLay_of_shaped h1)
          have du := RepB.dp R2.sub ru (SeqAt.canLay_of_shaped h2)
          refine ⟨p, u, toP d, toPs xs, j, toP xs[j], rfl, rfl, dl, du, h1, h2, (toPs_get xs j _).mpr ⟨xs[j], List.getElem?_eq_getElem hjl, rfl⟩, hjz, fun m z' hm hz' => ?_, ?_⟩
          · obtain ⟨dz, hz1, rfl⟩ := (toPs_get xs m z').mp hz'
            obtain ⟨hml, rfl⟩ := List.getElem?_eq_some_iff.mp hz1
            have := hjm m hm
            exact (by simpa using this : eqD xs[m] d = false)
          · exact o2 _ H2 S2 (g1.trans g2) (.int _)
        · exact o2.elim
      · exact o2.elim
    | [], [], _ => exact o2.elim
    | [], _ :: _, h => exact (show False from h).elim
    | [_], [], h => exact (show False from h).elim
    | [_], _ :: _ :: _, h => exact (show False from h.2).elim
    | _ :: _ :: _, [], h => exact (show False from h).elim
    | _ :: _ :: _, [_], h => exact (show False from h.2).elim
    | _ :: _ :: _, _ :: _ :: _, _ => exact o2.elim
  · exact o1.elim
end
end Dg

/-! The evaluator is sound: list(reversed(x)), x a list. -/
namespace Dg
open PySem PySem.Spec PyProof.Rows L2 RT
section
variable {prog : Program} {w : World} {A : Around} {s : Shared}
theorem ext_lr {R : Result → Shared → Prop} {it l S : Addr} {items : Array Value} {c₀ : Nat} (res : Value) (hh : A.handled = none) (hit : s.heap.IsRevIter it l ((items.size : Int) - 1)) (hl : s.heap.IsList l items) (hne : l ≠ it) (hn : items.size ≤ sizeLine)
    (hSi : S ≠ it) (hSl : S ≠ l) (hS : s.heap.get? S = some { cls := .type "list", data := .seq #[] c₀ })
    (hR : ∀ s' acc' c', Moved [S, it] (fun a b => b = a) s s' → s'.heap.get? S = some { cls := .type "list", dict := none, data := .seq acc' c', slots := #[] } → ItemsOf (fun i v => items[items.size - 1 - i]? = some v) acc' items.size → R (.ok (.ret res)) s') :
    wpAny (model prog w) A.in1 (Builtin.List.listExtendWith (.ref S) (.ref it) res)
      (fun fin s' => match fin with | .done f => R (.ok f) s' | .again c' => c'.quiet = true ∧ codeAny (model prog w) A c' R s') (fun e s' => R (.error e) s') s := by
  have W := (PySem.Walks.listRev (prog := prog) (w := w) (A := A.in1) hh it l hne items).toS
  have hSf : S ∉ [it, l] := by simp only [List.mem_cons, List.not_mem_nil, or_false, not_or]; exact ⟨hSi, hSl⟩
  have hT : s.TypeIs (.ref it) "list_reverseiterator" := Heap.IsRevIter.typeIs hit
  have h1 : Builtin.List.listSameRef (.ref S) (.ref it) = false := by simp [Builtin.List.listSameRef, hSi]
  unfold Builtin.List.listExtendWith
  refine wpAny_bind (wpAny_typeOf hT ?_)
  rw [if_neg (by rw [h1]; decide)]
  refine wpAny_bind (wpAny_pyIter_revIter hit ?_)
  refine wpAny_bind (wpAny_holding ?_)
  unfold Builtin.List.listLengthHint
  refine wpAny_bind (wpAny_specialOf hT nolen_lri ?_)
  show wpAny _ A.in1 (specialOf (Value.ref it) (Str.ofString "__length_hint__") >>= _) _ _ _
  refine wpAny_bind (wpAny_specialOf hT hint_lri ?_)
  generalize hid : ("list_reverseiterator.__length_hint__" : String) = id0
  wp_delta
  rw [show splitId id0 = some ("list_reverseiterator", "__length_hint__") from by subst hid; decide +kernel]
  subst hid
  refine wpAny_bind (wpAny_isInstance (b := true) hT (by rw [isSubtype_type]; kernel_rfl) ?_)
  refine wpAny_pure ?_
  rw [if_neg (by decide)]
  have e0 : ((items.size : Nat) : Int) - 1 - ((0 : Nat) : Int) = (items.size : Int) - 1 := by omega
  refine wpAny_pure ⟨plainId_quiet F.plain_extend_loop _, codeAny_extend_loopS W hn _ hSf _ items.size 0 _ _ _ rfl (Nat.zero_le _) ⟨Nat.zero_le _, by rw [e0]; exact hit, hl⟩ hS (ItemsOf.nil _) fun s' acc' c' hm hS' hacc => ?_⟩
  exact hR s' acc' c' hm hS' hacc
theorem init_lr {R : Result → Shared → Prop} {it l S : Addr} {items : Array Value} (hh : A.handled = none) (hit : s.heap.IsRevIter it l ((items.size : Int) - 1)) (hl : s.heap.IsList l items) (hne : l ≠ it) (hn : items.size ≤ sizeLine)
    (hSi : S ≠ it) (hSl : S ≠ l) (hS : s.heap.get? S = some { cls := .type "list", data := .seq #[] })
    (hR : ∀ s' acc' c', Moved [S, it] (fun a b => b = a) s s' → s'.heap.get? S = some { cls := .type "list", dict := none, data := .seq acc' c', slots := #[] } → ItemsOf (fun i v => items[items.size - 1 - i]? = some v) acc' items.size → R (.ok (.ret .none)) s') :
    wpAny (model prog w) A.in1 (Builtin.«list.__init__» ⟨[.ref S, .ref it], []⟩)
      (fun fin s' => match fin with | .done f => R (.ok f) s' | .again c' => c'.quiet = true ∧ codeAny (model prog w) A c' R s') (fun e s' => R (.error e) s') s := by
  show wpAny _ A.in1 (do let old ← Builtin.List.listItems (.ref S); Builtin.List.listUpdate (.ref S) (fun _ => #[]); letGo old.toList.reverse; Builtin.List.listExtendWith (.ref S) (.ref it) .none) _ _ s
  refine wpAny_bind ?_
  unfold Builtin.List.listItems
  refine wpAny_bind (wpAny_seqItems hS rfl (wpAny_pure ?_))
  show wpAny _ A.in1 (updateSeq S (fun _ => #[]) >>= fun _ => letGo (#[] : Array Value).toList.reverse >>= fun _ => Builtin.List.listExtendWith (.ref S) (.ref it) .none) _ _ s
  refine wpAny_bind (wpAny_updateSeq hS rfl ?_)
  have hS₂ := Heap.get?_update_self (Obj.mapSeq (fun _ => (#[] : Array Value))) hS rfl
  have oth : ∀ b o, b ≠ S → s.heap.get? b = some o → ((s.heap.update S (Obj.mapSeq (fun _ => (#[] : Array Value)))).get? b = some o) :=
    fun b o hb e => (Heap.get?_update_other _ _ (Ne.symm hb)).trans e
  refine wpAny_bind (wpAny_letGo ?_)
  obtain ⟨ol, hol, hol2⟩ := id hl
  refine ext_lr (s := { s with heap := s.heap.update S (Obj.mapSeq (fun _ => (#[] : Array Value))) }) .none hh (hit.at fun o e => oth it o (Ne.symm hSi) e) ⟨ol, oth l ol (Ne.symm hSl) hol, hol2⟩ hne hn hSi hSl hS₂ fun s' acc' c' hm hS' hacc => ?_
  have m0 : Moved [S, it] (fun a b => b = a) s { s with heap := s.heap.update S (Obj.mapSeq (fun _ => (#[] : Array Value))) } :=
    (Moved.refl (wr := [S, it]) (G := fun a b => b = a) (s := s) (fun _ => rfl)).then_heap (Nat.le_refl _) fun b o hb e => oth b o (fun h => hb (by rw [h]; exact List.mem_cons_self)) e
  exact hR s' acc' c' (Moved.trans (fun _ _ _ h1 h2 => h2.trans h1) m0 hm) hS' hacc
end
section
variable {prog : Program} {w : World} {A : Around} {E : Value → Shared → Prop} {s : Shared}
theorem call_list_lr {it l : Addr} {items : Array Value} {Q : Value → Shared → Prop} (hh : A.handled = none) (hit : s.heap.IsRevIter it l ((items.size : Int) - 1)) (hl : s.heap.IsList l items) (hne : l ≠ it) (hn : items.size ≤ sizeLine)
    (hQ : ∀ (h' : Heap) (tk : Nat) (acc : Array Value) (c : Nat), (∀ b o, b ≠ it → s.heap.get? b = some o → h'.get? b = some o) → ItemsOf (fun i v => items[items.size - 1 - i]? = some v) acc items.size →
      h'.get? s.heap.objs.size = some { cls := .type "list", dict := none, data := .seq acc c, slots := #[] } → Q (.ref s.heap.objs.size) { s with heap := h', toks := tk }) :
    wpAny (model prog w) A (call (.type "list") [.ref it]) Q E s := by
  obtain ⟨oi, hoi, hoi2⟩ := id hit
  obtain ⟨ol, hol, hol2⟩ := id hl
  have hSi : s.heap.objs.size ≠ it := Nat.ne_of_gt (Heap.lt_size hoi)
  have hSl : s.heap.objs.size ≠ l := Nat.ne_of_gt (Heap.lt_size hol)
  refine callType_codes (Q₁ := fun obj s₁ => obj = .ref s.heap.objs.size ∧ s₁ = { s with heap := s.heap.push { cls := .type "list", data := .seq #[] } }) F.called_list (F.typeCall_list_1 _) F.entry_list_init
    (code_list_new _ ⟨rfl, rfl⟩) fun obj s₁ h₁ => ?_
  obtain ⟨rfl, rfl⟩ := h₁
  have hS : (s.heap.push { cls := .type "list", data := .seq #[] }).get? s.heap.objs.size = some { cls := .type "list", data := .seq #[] } := Heap.get?_push_size _ rfl
  refine ⟨⟨_, hS, rfl⟩, F.args_list_init_2 _ _, init_lr (A := A.in1) (s := { s with heap := s.heap.push { cls := .type "list", data := .seq #[] } }) hh (hit.at fun o e => Heap.get?_push_of_some _ e) (hl.push _) hne hn hSi hSl hS fun s' acc' c' hm hS' hacc => ?_⟩
  refine ⟨rfl, ?_⟩
  rw [Moved.eq_with hm]
  refine hQ s'.heap s'.toks acc' c' (fun b o hb e => hm.heap b o (fun hmem => ?_) (Heap.get?_push_of_some _ e)) hacc hS'
  rcases List.mem_cons.mp hmem with e' | hmem
  · exact absurd (Heap.lt_size e) (by rw [e']; exact Nat.lt_irrefl _)
  · exact hb (List.mem_singleton.mp hmem)
end
section
variable {X : Cx}
def tLstRev (K : PySem.W.Frag) (te : TE) : TE := fun σ H Q => te σ H fun v H1 => ∃ (a : Addr) (xs : List V), v = .ref a ∧ SqL K H1 a xs ∧ ∀ q, H1 q = none → Q (.ref q) (upd H1 q (.lst xs.reverse))
theorem pe_lstRev {e : Expr} {te : TE} {p p2 pos pos2 : Pos} (hc : X.calm = true) (hg : Gl X "list") (hm : X.mg "list" = none) (hg2 : Gl X "reversed") (hm2 : X.mg "reversed" = none) (he : PE X e te)
    (hs : starEach [e] X.env = (false, eval e X.env) :: starEach [] X.env := by rfl)
    (hs2 : starEach [.Call (.Name "reversed" p2) [e] [] pos2] X.env = (false, eval (.Call (.Name "reversed" p2) [e] [] pos2) X.env) :: starEach [] X.env := by rfl) :
    PE X (.Call (.Name "list" p) [.Call (.Name "reversed" p2) [e] [] pos2] [] pos) (tLstRev X.K te) := by
  refine ⟨fun pins s σ H Q I h => ?_⟩
  refine Call_ (ld_blt I hg hm boot_list (PyProof.Rows.callWith_type1 (args_cons (Call_ (ld_blt I hg2 hm2 PyProof.Rows.boot_reversed (PyProof.Rows.callWith_type1 (args_cons (thn (he.run pins s σ H _ I h) fun u s1 ⟨v, H1, I1, r1, q1⟩ => args_nil ?_) hs) hs rfl))) hs2) hs2 rfl))
  obtain ⟨a, xs, ev, hq, q⟩ := q1
  subst ev
  obtain rfl : u = Value.ref a := r1
  obtain ⟨its, rv, p', hz⟩ := I1.list hq
  refine call_reversed_list p'.isList (args_nil ?_)
  have k0 : ∀ b o, s1.heap.get? b = some o → (s1.heap.push (revObj a ((its.toArray.size : Int) - 1))).get? b = some o := fun b o e => Heap.get?_push_of_some _ e
  have I2 : Inv X pins σ H1 { s1 with heap := s1.heap.push (revObj a ((its.toArray.size : Int) - 1)) } := I1.kept (t' := s1.toks) k0
  have hl := p'.isList
  obtain ⟨ol, hol, _⟩ := id hl
  have hne : a ≠ s1.heap.objs.size := Nat.ne_of_lt (Heap.lt_size hol)
  have hn : its.toArray.size ≤ sizeLine := by rw [List.size_toArray, ← rv.length]; exact hz
  refine call_list_lr (s := { s1 with heap := s1.heap.push (revObj a ((its.toArray.size : Int) - 1)) }) (I1.ok.hd hc) ⟨_, Heap.get?_push_size _ rfl, rfl, rfl⟩ (hl.push _) hne hn fun h' tk acc c hk hi hS => ?_
  have hsz : (s1.heap.push (revObj a ((its.toArray.size : Int) - 1))).objs.size = s1.heap.objs.size + 1 := by
    show (s1.heap.objs.push _).size = _
    rw [Array.size_push]
  have f2 : H1 (s1.heap.push (revObj a ((its.toArray.size : Int) - 1))).objs.size = none := I2.hok.fresh (Nat.le_refl _)
  have vr := vals_rev rv hi
  have I3 : Inv X pins σ (upd H1 (s1.heap.push (revObj a ((its.toArray.size : Int) - 1))).objs.size (.lst xs.reverse))
      { s1 with heap := (s1.heap.push (revObj a ((its.toArray.size : Int) - 1))).push { cls := .type "list", dict := none, data := .seq acc c, slots := #[] }, toks := tk } :=
    I2.laid (t' := tk) (fun c o e => Heap.get?_push_of_some _ e) (Nat.le_refl _) (show ObjOk X.prog X.w _ _ _ (.lst xs.reverse) from ⟨by rw [List.length_reverse]; exact hz, acc.toList, c, vr, by rw [Array.toArray_toList]; exact Heap.get?_push_size _ rfl⟩)
  have hf : upd H1 (s1.heap.push (revObj a ((its.toArray.size : Int) - 1))).objs.size (.lst xs.reverse) s1.heap.objs.size = none := by
    have hnz : s1.heap.objs.size ≠ (s1.heap.push (revObj a ((its.toArray.size : Int) - 1))).objs.size := by
      rw [hsz]
      exact Nat.ne_of_lt (Nat.lt_succ_self _)
    rw [upd_ne hnz]
    exact I1.hok.fresh (Nat.le_refl _)
  obtain ⟨f0, f1, f2', f3, f4, f5⟩ := I1.fpOk (b := s1.heap.objs.size) (Nat.le_refl _) hf
  have I4 : Inv X pins σ _ { s1 with heap := h', toks := tk } := I3.turned (t' := tk) (fun b o hb e => by
    by_cases hbz : b = (s1.heap.push (revObj a ((its.toArray.size : Int) - 1))).objs.size
    · subst hbz
      rw [Heap.get?_push_size _ rfl] at e
      cases e
      exact hS
    · rcases Heap.get?_push_cases e with ⟨e1, _⟩ | e1
      · exact absurd e1 hbz
      · exact hk b o hb e1) f0 f1 f3 f4 f5
  exact ⟨.ref (s1.heap.push (revObj a ((its.toArray.size : Int) - 1))).objs.size, _, I4, rfl, q _ f2⟩
end
section
variable {L : Lk} {lv : Nat} {se : SE} {X : Cx} {W : WX}
theorem e_revL (co : CallsOk L lv) (xo : XOk L lv se X) {n : Nat} {a : Expr} {ma : Ex} {p p2 pos pos2 : Pos} (hx : gloOf se "list" = some .blt) (hy : gloOf se "reversed" = some .blt) (ha : cE n se a = some ma) (ia : PE X a (tE L lv ma W)) :
    PE X (.Call (.Name "list" p) [.Call (.Name "reversed" p2) [a] [] pos2] [] pos) (tE L lv (.revL ma) W) := by
  obtain ⟨g1, _⟩ := glo_blt xo hx
  obtain ⟨g2, _⟩ := glo_blt xo hy
  have s1 := star_of ha [] X.env
  refine PE.imp (pe_lstRev xo.calm g1 (blt_none co xo hx (by decide +kernel)) g2 (blt_none co xo hy (by decide +kernel)) ia s1) fun σ H Q ⟨F, e, S, R, o⟩ => ?_
  rw [xo.K]
  rw [evalE] at o
  refine tE.bind R (P := fun r => Out L.G W σ H S r Q) outX outN o fun sx v H1 S1 g1 R1 r1 o1 => ?_
  have rb := r1.b R1.sub
  split at o1
  · rename_i xs hd
    rw [hd] at rb
    obtain ⟨b, ys, rfl, l, z, q⟩ := rb
    have lq := q.len
    refine ⟨b, ys, rfl, l, fun t ht => ?_⟩
    exact o1 _ _ _ (g1.trans (Grow.own g1.sub ht)) ⟨t, _, rfl, upd_same, by rw [List.length_reverse]; exact z, q.reverse, g1.sub.none ht, g1.h.none ht⟩
  · exact o1.elim
end
end Dg

/-! The evaluator is sound: tuple(reversed(range(n))). -/
namespace Dg
open PySem PySem.Spec PyProof.Rows L2 RT
section
variable {prog : Program} {w : World} {A : Around} {E : Value → Shared → Prop} {s : Shared}
theorem call_hint_ri {it : Addr} {x left c : Int} {Q : Value → Shared → Prop} (hit : IsRangeIter s.heap it x left c) (h : ∀ u, Q (.int left u) { s with toks := s.toks + 1 }) :
    wpAny (model prog w) A (call (.builtin "range_iterator.__length_hint__") [.ref it]) Q E s := by
  refine wpAny_call_entry F.slot_range_iterator_length_hint ⟨_, hit, rfl⟩ F.entry_range_iterator_length_hint ?_ (F.args_range_iterator_length_hint_1 _)
  unfold Builtin.«range_iterator.__length_hint__»
  refine wpAny_bind (wpAny_of_eq (a := Value.ref it) rfl ?_)
  try dsimp only
  refine wpAny_bind (wpAny_field hit rfl (x := rawInt left) rfl ?_)
  show wpAny _ _ (retInt left) _ _ _
  unfold retInt
  refine wpAny_bind (wpAny_mkInt ?_)
  exact wpAny_pure ⟨_, rfl, h _⟩
theorem collect_ri {it : Addr} {x c : Int} {n : Nat} {Q : List Value → Shared → Prop} (hh : A.handled = none) (hit : IsRangeIter s.heap it x (n : Int) c) (hn : n ≤ 2 ^ 24)
    (hQ : ∀ (h' : Heap) (tk : Nat) (acc : Array Value), (∀ b o, b ≠ it → s.heap.get? b = some o → h'.get? b = some o) → ItemsOf (fun i v => ∃ t, v = .int (x + i * c) t) acc n → Q acc.toList { s with heap := h', toks := tk }) :
    wpAny (model prog w) A (collect (.ref it)) Q E s := by
  refine wpAny_collect_iter_range (Walks.range (prog := prog) (w := w) (A := A.in1) hh it x c n).toS (fun i s' st => ⟨_, st, rfl⟩) ?_ (fun b hb => ?_) (List.mem_singleton.mpr rfl) (fun s₁ Q' E' st k => ?_) (fun s' acc hm hacc => ?_) (by rw [sizeLine_eq]; omega)
  · show IsRangeIter s.heap it (x + ((0 : Nat) : Int) * c) ((n : Int) - ((0 : Nat) : Int)) c
    rw [show x + ((0 : Nat) : Int) * c = x by simp, show (n : Int) - ((0 : Nat) : Int) = (n : Int) by omega]
    exact hit
  · rw [List.mem_singleton.mp hb]
    exact Heap.lt_size hit
  · refine call_hint_ri st fun u => ?_
    refine k _ _ (s₁.toks + 1) (by omega) ?_
    unfold Builtin.List.listTooLong
    rw [sizeLine_eq]
    exact decide_eq_false (by omega)
  · rw [Moved.eq_with hm]
    exact hQ s'.heap s'.toks acc (fun b o hb e => hm.heap b o (fun h => hb (List.mem_singleton.mp h)) e) hacc
theorem code_tuple_new_ri {it : Addr} {x c : Int} {n : Nat} {Q₁ : Value → Shared → Prop} (hh : A.handled = none) (hit : IsRangeIter s.heap it x (n : Int) c) (hn : n ≤ 2 ^ 24)
    (h : ∀ (h' : Heap) (tk : Nat) (acc : Array Value), (∀ b o, b ≠ it → s.heap.get? b = some o → h'.get? b = some o) → ItemsOf (fun i v => ∃ t, v = .int (x + i * c) t) acc n →
      Q₁ (.ref h'.objs.size) { s with heap := h'.push { cls := .type "tuple", data := .seq acc }, toks := tk }) :
    codeAny (model prog w) A (.call (.builtin "tuple.__new__") ⟨[.type "tuple", .ref it], []⟩) (wants Q₁ E) s := by
  refine codeAny_of_tree ?_
  show wpAny _ A.in1 (do checkBuiltinCall "tuple.__new__" ⟨[.type "tuple", .ref it], []⟩; again (.builtin "tuple.__new__" ⟨[.type "tuple", .ref it], []⟩)) _ _ s
  refine wpAny_bind (wpAny_of_eq (F.newCall_tuple_1 _) (wpAny_pure ⟨plainId_quiet F.plain_tuple_new _, codeAny_builtin F.entry_tuple_new ?_⟩))
  rw [Around.under_plainId F.plain_tuple_new _]
  have hsub := sub_tuple_self
  have hinit := init_tuple_lookup
  have hmh := madeHere_tuple
  have hTI : s.TypeIs (.ref it) "range_iterator" := ⟨_, hit, rfl⟩
  have hh1 : A.in1.handled = none := hh
  wp_walk using wpAny_typeOf hTI, collect_ri (A := A.in1) hh1 hit hn
  intro h' tk acc hk hacc
  show wpAny _ _ (Builtin.Tuple.tupleExact acc.toList.toArray >>= fun v => ret v) _ _ _
  unfold Builtin.Tuple.tupleExact
  refine wpAny_bind (wpAny_newObj_type ?_ (by show acc.toList.toArray.size ≤ sizeLine; simp only [Array.toArray_toList]; rw [hacc.1, sizeLine_eq]; omega))
  refine wpAny_pure ?_
  have e : acc.toList.toArray = acc := by simp
  rw [e]
  exact h h' tk acc hk hacc
theorem call_tuple_ri {it : Addr} {x c : Int} {n : Nat} {Q : Value → Shared → Prop} (hh : A.handled = none) (hit : IsRangeIter s.heap it x (n : Int) c) (hn : n ≤ 2 ^ 24)
    (hQ : ∀ (h' : Heap) (tk : Nat) (acc : Array Value), (∀ b o, b ≠ it → s.heap.get? b = some o → h'.get? b = some o) → ItemsOf (fun i v => ∃ t, v = .int (x + i * c) t) acc n →
      Q (.ref h'.objs.size) { s with heap := h'.push { cls := .type "tuple", data := .seq acc }, toks := tk }) :
    wpAny (model prog w) A (call (.type "tuple") [.ref it]) Q E s := by
  refine callType_codes (Q₁ := fun obj s₁ => s₁.TypeIs obj "tuple" ∧ Q obj s₁) F.called_tuple (F.typeCall_tuple_1 _) F.entry_object_init
    (code_tuple_new_ri (A := A.in1) hh hit hn fun h' tk acc hk hacc => ⟨⟨_, Heap.get?_push_size _ rfl, rfl⟩, hQ h' tk acc hk hacc⟩) fun obj s₁ h₁ => ?_
  exact ⟨h₁.1, F.args_object_init_2 obj _, object_init_meets F.called_tuple.init.lookup F.called_tuple.made (by decide) prog w A.in1 _ s₁ ⟨h₁.1, rfl, h₁.2⟩⟩
end
def rgR (b : Int) : List V := (rgV 0 b).reverse
theorem vals_rgR {b : Int} {acc : Array Value} (h : ItemsOf (fun i v => ∃ t, v = .int (0 + (((b - 0).toNat : Nat) : Int) - 1 + i * (-1)) t) acc (b - 0).toNat) : Vals (rgR b) acc.toList := by
  have e : (rgR b).length = acc.toList.length := by
    unfold rgR
    rw [List.length_reverse, rgV_length, Array.length_toList, h.1]
  refine vals_of_at e fun j x u h1 h2 => ?_
  unfold rgR at h1
  have hj : j < (rgV 0 b).length := by
    have := (List.getElem?_eq_some_iff.mp h1).1
    rw [List.length_reverse] at this
    exact this
  rw [List.getElem?_reverse hj] at h1
  rw [rgV_length] at hj h1
  obtain ⟨t, rfl⟩ := h.2 j u (by rw [← Array.getElem?_toList]; exact h2)
  unfold rgV at h1
  rw [List.getElem?_map] at h1
  rw [List.getElem?_range (by omega)] at h1
  cases h1
  refine ⟨t, ?_⟩
  congr 1
  omega
section
variable {X : Cx}
theorem pe_tupRevR {e : Expr} {tr : L2.St → Hp → (Int → Int → Hp → Prop) → Prop} {p p2 pos pos2 : Pos} (hc : X.calm = true) (hg : Gl X "tuple") (hm : X.mg "tuple" = none) (hg2 : Gl X "reversed") (hm2 : X.mg "reversed" = none) (he : PRg X e tr)
    (hs : starEach [e] X.env = (false, eval e X.env) :: starEach [] X.env)
    (hs2 : starEach [.Call (.Name "reversed" p2) [e] [] pos2] X.env = (false, eval (.Call (.Name "reversed" p2) [e] [] pos2) X.env) :: starEach [] X.env := by rfl) :
    PE X (.Call (.Name "tuple" p) [.Call (.Name "reversed" p2) [e] [] pos2] [] pos) (fun σ H Q => tr σ H fun a b H1 => a = 0 ∧ -(2 ^ 62) ≤ b ∧ b < 2 ^ 62 ∧ (b - 0).toNat ≤ 2 ^ 24 ∧ ∀ q, H1 q = none → Q (.ref q) (upd H1 q (.tup (rgR b)))) := by
  refine ⟨fun pins s σ H Q I h => ?_⟩
  refine Call_ (ld_blt I hg hm boot_tuple (PyProof.Rows.callWith_type1 (args_cons (Call_ (ld_blt I hg2 hm2 PyProof.Rows.boot_reversed (PyProof.Rows.callWith_type1 (args_cons (thn (he pins s σ H _ I h) fun u s1 hx => args_nil ?_) hs) hs rfl))) hs2) hs2 rfl))
  obtain ⟨r, a, b, t, w1, v, H1, eu, hr, I1, rfl, b3, b4, b5, q⟩ := hx
  subst eu
  have hn : Builtin.Range.rangeSize 0 b 1 = (((b - 0).toNat : Nat) : Int) := rangeSize_nat 0 b
  refine call_reversed_range hr (smallRev_one (by omega) (by omega) b3 b4) (args_nil ?_)
  have hit : IsRangeIter (s1.heap.push (rngRevObj 0 b 1)) s1.heap.objs.size (0 + (((b - 0).toNat : Nat) : Int) - 1) (((b - 0).toNat : Nat) : Int) (-1) := by
    have e1 : 0 + (((b - 0).toNat : Nat) : Int) - 1 = 0 + (Builtin.Range.rangeSize 0 b 1 - 1) * 1 := by rw [hn]; omega
    rw [e1, ← hn]
    exact Heap.get?_push_size _ rfl
  have k0 : ∀ b' o, s1.heap.get? b' = some o → (s1.heap.push (rngRevObj 0 b 1)).get? b' = some o := fun b' o e => Heap.get?_push_of_some _ e
  have I2 : Inv X pins σ H1 { s1 with heap := s1.heap.push (rngRevObj 0 b 1) } := I1.kept (t' := s1.toks) k0
  obtain ⟨f0, f1, f2, f3, f4, f5⟩ := I1.fpOk (H' := H1) (b := s1.heap.objs.size) (Nat.le_refl _) (I1.hok.fresh (Nat.le_refl _))
  refine call_tuple_ri (s := { s1 with heap := s1.heap.push (rngRevObj 0 b 1) }) (I1.ok.hd hc) hit b5 fun h' tk acc hk hi => ?_
  have I3 : Inv X pins σ H1 { s1 with heap := h', toks := tk } := I2.turned (t' := tk) (fun b o hb e => hk b o hb e) f0 f1 f3 f4 f5
  refine ⟨.ref h'.objs.size, upd H1 h'.objs.size (.tup (rgR b)), I3.laid (t' := tk) (fun c o e => Heap.get?_push_of_some _ e) (Nat.le_refl _) (show ObjOk X.prog X.w _ _ _ (.tup (rgR b)) from ⟨by unfold rgR; rw [List.length_reverse, rgV_length, sizeLine_eq]; omega, acc.toList, vals_rgR hi, ?_⟩), rfl, q _ (I3.hok.fresh (Nat.le_refl _))⟩
  rw [Array.toArray_toList]
  exact IsTup.new _ _
end
section
variable {L : Lk} {lv : Nat} {se : SE} {X : Cx} {W : WX}
theorem rgR_rep (L : Lk) (S : Hp) (j : Int) : RepL L.G S (rgR j) (rngI 0 j).reverse := (rgV_rep L S j).reverse
theorem e_revR (co : CallsOk L lv) (xo : XOk L lv se X) {n : Nat} {b : Expr} {mb : Ex} {p p2 p3 pos pos2 pos3 : Pos} (hx : gloOf se "tuple" = some .blt) (hy : gloOf se "reversed" = some .blt) (hz : gloOf se "range" = some .blt) (hb : cE n se b = some mb) (ib : PE X b (tE L lv mb W)) :
    PE X (.Call (.Name "tuple" p) [.Call (.Name "reversed" p2) [.Call (.Name "range" p3) [b] [] pos3] [] pos2] [] pos) (tE L lv (.revR mb) W) := by
  obtain ⟨g1, _⟩ := glo_blt xo hx
  obtain ⟨g2, _⟩ := glo_blt xo hy
  obtain ⟨g3, _⟩ := glo_blt xo hz
  have s1 := star_of hb [] X.env
  refine PE.imp (pe_tupRevR xo.calm g1 (blt_none co xo hx (by decide +kernel)) g2 (blt_none co xo hy (by decide +kernel)) (prg_1 g3 (blt_none co xo hz (by decide +kernel)) ib s1) rfl) fun σ H Q ⟨F, e, S, R, o⟩ => ?_
  rw [evalE] at o
  refine tE.bind R (P := fun r => Out L.G W σ H S r Q) outX outN o fun sx v H1 S1 g1 R1 r1 o1 => ?_
  split at o1
  · rename_i j hj
    split at o1
    · rename_i hr
      have l1 := hr.2
      unfold LIM at l1
      refine ⟨j, by rw [int_of R1.sub r1 hj], rfl, hr.1.1, hr.1.2, by simpa using l1, fun q hq => ?_⟩
      have n1 := g1.sub.none hq
      exact o1 _ _ _ (g1.trans (Grow.add g1.sub hq)) (.tup (.inl (.inl upd_same)) (by unfold rgR; rw [List.length_reverse, rgV_length]; unfold LIM; simpa using l1) ((rgR_rep L S1 j).mono (.new n1)))
    · exact o1.elim
  · exact o1.elim
end
end Dg

/-! The evaluator is sound: in range(..), len(set(..)), {}, zip. -/
namespace Dg
open PySem PySem.Spec PyProof.Rows L2 RZ
/-! ### len(set(x)) -/
theorem ddI_mem {x : Int} : ∀ {l : List Int}, x ∈ ddI l ↔ x ∈ l
  | [] => Iff.rfl
  | y :: r => by
    unfold ddI
    split
    · rename_i h
      rw [ddI_mem (l := r), List.mem_cons]
      exact ⟨.inr, fun q => q.elim (fun e => by rw [e]; exact h) id⟩
    · rw [List.mem_cons, List.mem_cons, ddI_mem (l := r)]
theorem ddI_nd : ∀ l : List Int, (ddI l).Nodup
  | [] => List.nodup_nil
  | y :: r => by
    unfold ddI
    split
    · exact ddI_nd r
    · rename_i h
      exact List.nodup_cons.mpr ⟨fun q => h (ddI_mem.mp q), ddI_nd r⟩
theorem ddI_len {l m : List Int} (nd : m.Nodup) (h : ∀ x, x ∈ m ↔ x ∈ l) : m.length = (ddI l).length :=
  (List.Perm.length_eq ((List.perm_ext_iff_of_nodup nd (ddI_nd l)).mpr fun x => by rw [h, ddI_mem]))
theorem ddI_le : ∀ l : List Int, (ddI l).length ≤ l.length
  | [] => Nat.le_refl _
  | y :: r => by
    have := ddI_le r
    unfold ddI
    rw [List.length_cons]
    split
    · omega
    · rw [List.length_cons]; omega
theorem fm_all (ns : List Int) : ∀ i, i ≤ ns.length → (firstMet (fun i => ns.getD i 0) i).Nodup ∧ ∀ x, x ∈ firstMet (fun i => ns.getD i 0) i ↔ x ∈ ns.take i
  | 0, _ => ⟨by rw [firstMet_zero]; exact List.nodup_nil, fun x => by rw [firstMet_zero, List.take_zero]⟩
  | i + 1, hi => by
    obtain ⟨h1, h2⟩ := fm_all ns i (by omega)
    have hlt : i < ns.length := hi
    have e : ns.getD i 0 = ns[i] := by rw [List.getD_eq_getElem?_getD, List.getElem?_eq_getElem hlt] <;> rfl
    have e2 : ns.take (i + 1) = ns.take i ++ [ns[i]] := by rw [List.take_add_one, List.getElem?_eq_getElem hlt] <;> rfl
    rw [firstMet_succ, e, e2]
    unfold step_dedup
    by_cases hm : ns[i] ∈ firstMet (fun i => ns.getD i 0) i
    · have : (firstMet (fun i => ns.getD i 0) i).any (· == ns[i]) = true := List.any_eq_true.mpr ⟨_, hm, by simp⟩
      rw [if_pos this]
      refine ⟨h1, fun x => ?_⟩
      rw [h2, List.mem_append, List.mem_singleton]
      exact ⟨.inl, fun q => q.elim id fun e3 => by rw [e3]; exact (h2 _).mp hm⟩
    · have : ¬ (firstMet (fun i => ns.getD i 0) i).any (· == ns[i]) = true := fun q => by
        obtain ⟨y, hy, e3⟩ := List.any_eq_true.mp q
        rw [beq_iff_eq] at e3
        rw [e3] at hy
        exact hm hy
      rw [if_neg this]
      refine ⟨List.nodup_append.mpr ⟨h1, by simp, fun a ha b hb e3 => ?_⟩, fun x => by rw [List.mem_append, List.mem_append, h2]⟩
      rw [List.mem_singleton.mp hb] at e3
      rw [e3] at ha
      exact hm ha
def tLenSetA (K : PySem.W.Frag) (ta : TE) : TE := fun σ H Q => ta σ H fun x H1 => ∃ (l : Addr) (ns : List Int), x = .ref l ∧ (SqL K H1 l (ns.map V.int) ∨ SqT K H1 l (ns.map V.int)) ∧ ns.length < 64 ∧ Q (.int (ddI ns).length) H1
theorem pe_lenSetA {X : Cx} {a : Expr} {ta : TE} {p p2 q pos : Pos} (hg : Gl X "len") (hm : X.mg "len" = none) (hg2 : Gl X "set") (hm2 : X.mg "set" = none) (ha : PE X a ta) (hc : X.calm = true)
    (na : starEach [a] X.env = (false, eval a X.env) :: starEach [] X.env := by rfl) : PE X (.Call (.Name "len" p) [.Call (.Name "set" p2) [a] [] q] [] pos) (tLenSetA X.K ta) := by
  refine ⟨fun pins s σ H Q I h => ?_⟩
  refine Call_ (ld_blt I hg hm PySem.boot_len ?_)
  refine PyProof.Rows.callWith_builtin1 (PyProof.Rows.args_cons ?_ rfl) rfl rfl
  refine Call_ (ld_blt I hg2 hm2 PyProof.Rows.boot_set ?_)
  refine PyProof.Rows.callWith_type1 (PyProof.Rows.args_cons (thn (ha.run pins s σ H _ I h) fun v s1 ⟨x, H1, I1, r1, q1⟩ => PyProof.Rows.args_nil ?_) na) na rfl
  obtain ⟨l, ns, rfl, hq, hl, q1⟩ := q1
  cases r1
  rcases hq with hq | hq
  · obtain ⟨its, r, pl, hz⟩ := I1.list hq
    have hlen : its.toArray.size = ns.length := by rw [List.size_toArray, ← r.length, List.length_map]
    refine call_set_list (I1.ok.hd hc) pl.isList (ns := ns) (by simpa using ints_of_vals r) (by rw [hlen]; unfold scanBound; omega) fun h' tk hS hk => ?_
    refine PyProof.Rows.args_nil ?_
    obtain ⟨f1, f2⟩ := fm_all ns ns.length (Nat.le_refl _)
    rw [List.take_length] at f2
    have fl := ddI_len f1 f2
    have hz2 := firstMet_length_le (fun i => ns.getD i 0) ns.length
    rw [hlen] at hS
    obtain ⟨o, es, ep, t, ho, hex, hd, _, _, _, hf, hn⟩ := hS
    have I2 : Inv X pins σ H1 { s1 with heap := h', toks := tk } := I1.kept fun b o e => hk b o (Heap.lt_size e) e
    exact call_len_set ho hex hd hf (by rw [hn] <;> omega) ⟨.int (ddI ns).length, H1, I2.tok _, ⟨_, by rw [hn, fl]⟩, q1⟩
  · obtain ⟨its, r, pl, hz⟩ := I1.tuple hq
    have hi : IntsAre its.toArray.toList ns := by simpa using ints_of_vals r
    refine call_set_tupI ns (I1.ok.hd hc) (show s1.heap.IsTuple l its.toArray from pl) hi (by unfold scanBound; omega) fun h' tk c R1 hcn k => ?_
    refine PyProof.Rows.args_nil ?_
    obtain ⟨o, es, ep, t, ho, hex, hdt, g, nd, hm3, hb, hf, hn, hr, hl2⟩ := R1
    have fl : (es.toList.map keyOf).length = (ddI ns).length := ddI_len nd fun x => by rw [← hm3 x, decide_eq_true_eq]
    rw [List.length_map, Array.length_toList] at fl
    have I2 : Inv X pins σ H1 { s1 with heap := h', toks := tk } := I1.kept fun b o e => k b o e
    exact call_len_set ho hex hdt hf (by have := ddI_le ns; omega) ⟨.int (ddI ns).length, H1, I2.tok _, ⟨_, by rw [fl]⟩, q1⟩
def tSortSetA (K : PySem.W.Frag) (ta : TE) : TE := fun σ H Q => ta σ H fun x H1 => ∃ (l : Addr) (ns : List Int), x = .ref l ∧ SqT K H1 l (ns.map V.int) ∧ ns.length < 64 ∧ ∀ p, H1 p = none → Q (.ref p) (upd H1 p (.lst (((ddI ns).mergeSort fun i j => decide (i ≤ j)).map V.int)))
theorem dd_sorted {l m : List Int} (h1 : m.Pairwise (· < ·)) (h : ∀ x, x ∈ m ↔ x ∈ l) : m = (ddI l).mergeSort fun i j => decide (i ≤ j) := by
  have nd : m.Nodup := h1.imp fun h => by omega
  have pm : m.Perm ((ddI l).mergeSort fun i j => decide (i ≤ j)) := ((List.perm_ext_iff_of_nodup nd (ddI_nd l)).mpr fun x => by rw [h, ddI_mem]).trans (List.mergeSort_perm _ _).symm
  have p1 : m.Pairwise fun i j => decide (i ≤ j) = true := h1.imp fun h => by simp; omega
  have p2 : ((ddI l).mergeSort fun i j => decide (i ≤ j)).Pairwise fun i j => decide (i ≤ j) = true := List.pairwise_mergeSort (fun a b c h1 h2 => by simp at *; omega) (fun a b => by simp; omega) _
  exact pm.eq_of_pairwise (fun a b _ _ h1 h2 => by simp at h1 h2; omega) p1 p2
theorem pe_sortSetA {X : Cx} {a : Expr} {ta : TE} {p p2 q pos : Pos} (hg : Gl X "sorted") (hm : X.mg "sorted" = none) (hg2 : Gl X "set") (hm2 : X.mg "set" = none) (ha : PE X a ta) (hc : X.calm = true)
    (na : starEach [a] X.env = (false, eval a X.env) :: starEach [] X.env := by rfl) : PE X (.Call (.Name "sorted" p) [.Call (.Name "set" p2) [a] [] q] [] pos) (tSortSetA X.K ta) := by
  refine ⟨fun pins s σ H Q I h => ?_⟩
  refine Call_ (ld_blt I hg hm PyProof.Rows.boot_sorted ?_)
  refine PyProof.Rows.callWith_builtin1 (PyProof.Rows.args_cons ?_ rfl) rfl rfl
  refine Call_ (ld_blt I hg2 hm2 PyProof.Rows.boot_set ?_)
  refine PyProof.Rows.callWith_type1 (PyProof.Rows.args_cons (thn (ha.run pins s σ H _ I h) fun v s1 ⟨x, H1, I1, r1, q1⟩ => PyProof.Rows.args_nil ?_) na) na rfl
  obtain ⟨l, ns, rfl, hq, hl, q1⟩ := q1
  cases r1
  obtain ⟨its, r, pl, hz⟩ := I1.tuple hq
  have hi : IntsAre its.toArray.toList ns := by simpa using ints_of_vals r
  refine call_set_tupI ns (I1.ok.hd hc) (show s1.heap.IsTuple l its.toArray from pl) hi (by unfold scanBound; omega) fun h' tk c R1 hcn k => ?_
  refine PyProof.Rows.args_nil ?_
  have I2 : Inv X pins σ H1 { s1 with heap := h', toks := tk } := I1.kept fun b o e => k b o e
  refine sorted_set R1 (I2.ok.hd hc) (by omega) fun s' p out c ns' k g o hp hg hi hs hm hl => ?_
  have e1 : ns' = (ddI ns).mergeSort fun i j => decide (i ≤ j) := dd_sorted hs fun x => by rw [hm x, decide_eq_true_eq]
  have hlen : (ns'.map V.int).length ≤ sizeLine := by rw [List.length_map, hl, sizeLine_eq]; omega
  have hn : H1 p = none := I2.hok.fresh hp
  have J : L2.Inv X pins σ (upd H1 p (.lst (ns'.map V.int))) { ({ s1 with heap := h', toks := tk } : Shared) with heap := s'.heap, gens := s'.gens, drawn := s'.drawn, toks := s'.toks } := I2.call (ch := []) (Un.laid k hp hn) (I2.hok.laid k hp (o := .lst (ns'.map V.int)) ⟨hlen, out.toList, c, vals_of_ints hi, hg⟩) (by rw [g]; exact I2.bare) (fun _ z => nomatch z)
  have e : s' = { ({ s1 with heap := h', toks := tk } : Shared) with heap := s'.heap, gens := s'.gens, drawn := s'.drawn, toks := s'.toks } := by
    cases s'
    cases s1
    cases o
    rfl
  rw [e]
  refine ⟨.ref p, _, J, rfl, ?_⟩
  rw [e1]
  exact q1 p hn
theorem e_sset (co : CallsOk L lv) (xo : XOk L lv se X) {n : Nat} {a : Expr} {ma : Ex} {p p2 pos pos2 : Pos} (hx : gloOf se "sorted" = some .blt) (hy : gloOf se "set" = some .blt) (ha : cE n se a = some ma) (ia : PE X a (tE L lv ma W)) :
    PE X (.Call (.Name "sorted" p) [.Call (.Name "set" p2) [a] [] pos2] [] pos) (tE L lv (.sset ma) W) := by
  obtain ⟨g1, _⟩ := glo_blt xo hx
  obtain ⟨g2, _⟩ := glo_blt xo hy
  have s1 := star_of ha [] X.env
  refine PE.imp (pe_sortSetA g1 (blt_none co xo hx (by decide +kernel)) g2 (blt_none co xo hy (by decide +kernel)) ia xo.calm s1) fun σ H Q ⟨F, e, S, R, o⟩ => ?_
  rw [xo.K]
  rw [evalE] at o
  refine tE.bind R (P := fun r => Out L.G W σ H S r Q) outX outN o fun sx v H1 S1 g1 R1 r1 o1 => ?_
  have rb := r1.b R1.sub
  split at o1
  · rename_i xs hd
    rw [hd] at rb
    cases rb with
    | tup l z q =>
      unfold ssetD at o1
      split at o1
      · rename_i ns hn
        split at o1
        · rename_i hl
          have := q.ints2 hn
          subst this
          refine ⟨_, ns, rfl, R1.sub.sqT l, hl, fun p hp => ?_⟩
          refine (o1.later g1) _ _ S1 (Grow.own R1.sub hp) ⟨p, _, rfl, upd_same, ?_, RepL.ints _, R1.sub.none hp, hp⟩
          rw [List.length_map, List.length_mergeSort]
          have := ddI_le ns
          unfold LIM
          omega
        · exact o1.elim
      · exact o1.elim
  · exact o1.elim
/-! ### in range(..) -/
def rRng1 : RCl := fun vs H Q => ∃ j, vs = [V.int j] ∧ ∀ p, H p = none → Q (.ref p) (upd H p (.rng 0 j))
theorem cr_range1 {X : Cx} : CallR X (.type "range") rRng1 := by
  intro pins s σ H vs us Q I r h
  obtain ⟨j, rfl, q⟩ := h
  have rz := r.one
  obtain ⟨u1, rfl, rj⟩ := rz
  obtain ⟨u, rfl⟩ := rj
  refine call_range_1 ⟨.ref s.heap.objs.size, upd H s.heap.objs.size (.rng 0 j), I.laid (t' := s.toks + 1 + 1) (fun b o e => Heap.get?_push_of_some _ e) (Nat.le_refl _) ?_, rfl, q _ (I.hok.fresh (Nat.le_refl _))⟩
  exact ⟨_, _, _, Heap.get?_push_size _ rfl⟩
def rInR (f : Bool → Bool) : R2 := fun x y H Q => ∃ i a lo hi, x = V.int i ∧ y = V.ref a ∧ H a = some (.rng lo hi) ∧ Q (.bl (f (decide (lo ≤ i ∧ i < hi)))) H
theorem op_notIn_rng {X : Cx} : OpR X (compareOp .NotIn) (rInR not) := by
  intro pins s σ H x y v u Q I rx ry h
  obtain ⟨i, a, lo, hi, rfl, rfl, ha, q⟩ := h
  obtain ⟨k, rfl⟩ := rx
  obtain rfl : u = Value.ref a := ry
  obtain ⟨t1, t2, t3, ho⟩ := I.hok a _ ha
  show wpAny _ _ (do return Value.bool (!(← contains (Value.ref a) (Value.int i k)))) _ _ s
  refine wpAny_bind (wpAny_contains_slot (T := "range") ⟨_, ho, rfl⟩ F.slot_range_contains (call_meets F.slot_range_contains ⟨_, ho, rfl⟩ F.entry_range_contains (F.args_range_contains_2 _ _) (q_contains a lo hi i t1 t2 t3 k)
    ⟨ho, wpAny_truthy_bool (wpAny_pure ⟨.bl _, H, I, rfl, ?_⟩)⟩))
  rw [place1]
  exact q
section
variable {L : Lk} {lv : Nat} {se : SE} {X : Cx} {W : WX}
theorem boot_range1 : bootBuiltins ("range" : Str) = some (.type "range") := by decide +kernel
theorem inR_read {neg : Bool} {ma mc : Ex} {σ : L2.St} {H : Hp} {Q : VK} (h : tE L lv (.inR neg ma mc) W σ H Q) :
    tOp (rInR fun b => if neg then !b else b) (tE L lv ma W) (fun σ H Q => tE L lv mc W σ H fun v H1 => rRng1 [v] H1 Q) σ H Q := by
  obtain ⟨F, e, S, R, o⟩ := h
  rw [evalE] at o
  refine tE.bind R (P := fun r => Out L.G W σ H S r Q) outX outN o fun sx v H1 S1 g1 R1 r1 o1 => ?_
  refine tE.bind R1 (P := fun r => Out L.G W σ H S r Q) (fun C t h H2 S2 g => outX C t h H2 S2 (g1.trans g)) outN o1 fun sy u H2 S2 g2 R2 r2 o2 => ?_
  split at o2
  · rename_i i j hi hj
    have ei := int_of R1.sub r1 hi
    have ej := int_of R2.sub r2 hj
    refine ⟨j, by rw [ej], fun p hp => ⟨i, p, 0, j, ei, rfl, upd_same, ?_⟩⟩
    exact o2 (.bl (if neg then !decide (0 ≤ i ∧ i < j) else decide (0 ≤ i ∧ i < j))) _ S2 ((g1.trans g2).trans (Grow.own (o := .rng 0 j) R2.sub hp)) (.bl _)
  · exact o2.elim
theorem rng_pe (co : CallsOk L lv) (xo : XOk L lv se X) {n : Nat} {c : Expr} {mc : Ex} {p pos : Pos} (hx : gloOf se "range" = some .blt) (hc : cE n se c = some mc) (ic : PE X c (tE L lv mc W)) :
    PE X (.Call (.Name "range" p) [c] [] pos) (fun σ H Q => tE L lv mc W σ H fun v H1 => rRng1 [v] H1 Q) := by
  obtain ⟨gl, _⟩ := glo_blt xo hx
  have hes : cEs (n + 1) se [c] = some (.cons mc .nil) := by
    unfold cEs
    rw [hc]
    cases n <;> rfl
  obtain ⟨s1, s2⟩ := args_star hes X.env pos
  exact PE.imp (pe_callTy cr_range1 gl (blt_none co xo hx (by decide +kernel)) boot_range1 (pa_cons ic pa_nil s1) (by decide +kernel) (by decide +kernel) s1 s2) fun σ H Q h => h
theorem e_inR (co : CallsOk L lv) (xo : XOk L lv se X) {n m : Nat} {a c : Expr} {ma mc : Ex} {p pos pos2 : Pos} {op : CmpOp} {k : Bool} (ho : (op = .In ∧ k = false) ∨ (op = .NotIn ∧ k = true)) (hx : gloOf se "range" = some .blt) (hc : cE n se c = some mc) (ia : PE X a (tE L lv ma W)) (ic : PE X c (tE L lv mc W)) :
    PE X (.Compare a [op] [.Call (.Name "range" p) [c] [] pos2] pos) (tE L lv (.inR k ma mc) W) ∧ PT X (.Compare a [op] [.Call (.Name "range" p) [c] [] pos2] pos) (tT L lv (.inR k ma mc) W) := by
  have ir := rng_pe (p := p) (pos := pos2) co xo hx hc ic
  rcases ho with ⟨rfl, rfl⟩ | ⟨rfl, rfl⟩
  · have op : OpR X (compareOp .In) (rInR fun b => if false = true then !b else b) := op_in_rng
    exact ⟨PE.imp (pe_cmpR op ia ir rfl) fun σ H Q h => inR_read h, PT.imp (pt_cmpR op ia ir rfl) fun σ H Q h => inR_read (tT_B h)⟩
  · have op : OpR X (compareOp .NotIn) (rInR fun b => if true = true then !b else b) := op_notIn_rng
    exact ⟨PE.imp (pe_cmpR op ia ir rfl) fun σ H Q h => inR_read h, PT.imp (pt_cmpR op ia ir rfl) fun σ H Q h => inR_read (tT_B h)⟩
theorem e_lset (co : CallsOk L lv) (xo : XOk L lv se X) {n : Nat} {a : Expr} {ma : Ex} {p p2 pos pos2 : Pos} (hx : gloOf se "len" = some .blt) (hy : gloOf se "set" = some .blt) (ha : cE n se a = some ma) (ia : PE X a (tE L lv ma W)) :
    PE X (.Call (.Name "len" p) [.Call (.Name "set" p2) [a] [] pos2] [] pos) (tE L lv (.lset ma) W) := by
  obtain ⟨g1, _⟩ := glo_blt xo hx
  obtain ⟨g2, _⟩ := glo_blt xo hy
  have s1 := star_of ha [] X.env
  refine PE.imp (pe_lenSetA g1 (blt_none co xo hx (by decide +kernel)) g2 (blt_none co xo hy (by decide +kernel)) ia xo.calm s1) fun σ H Q ⟨F, e, S, R, o⟩ => ?_
  rw [xo.K]
  rw [evalE] at o
  refine tE.bind R (P := fun r => Out L.G W σ H S r Q) outX outN o fun sx v H1 S1 g1 R1 r1 o1 => ?_
  have rb := r1.b R1.sub
  have key : ∀ {xs : List Dv} {ys : List V}, RepL L.G S1 ys xs → Out L.G W σ H S (lsetD xs) Q → ∃ ns : List Int, ys = ns.map V.int ∧ ns.length < 64 ∧ Q (.int (ddI ns).length) H1 := fun {xs ys} q o1 => by
    unfold lsetD at o1
    split at o1
    · rename_i ns hn
      split at o1
      · rename_i hl
        exact ⟨ns, q.ints2 hn, hl, o1 _ H1 S1 g1 (.int _)⟩
      · exact o1.elim
    · exact o1.elim
  split at o1
  · rename_i xs hd
    rw [hd] at rb
    obtain ⟨b, ys, rfl, l, z, q⟩ := rb
    obtain ⟨ns, rfl, hl, qq⟩ := key q o1
    exact ⟨b, ns, rfl, .inl l, hl, qq⟩
  · rename_i xs hd
    rw [hd] at rb
    cases rb with
    | tup l z q =>
      obtain ⟨ns, rfl, hl, qq⟩ := key q o1
      exact ⟨_, ns, rfl, .inr (R1.sub.sqT l), hl, qq⟩
  · exact o1.elim
theorem e_dct0 {pos : Pos} : PE X (.Dict [] [] pos) (tE L lv .dct0 W) := PE.imp pe_dnewK fun σ H Q ⟨F, e, S, R, o⟩ => by
  rw [evalE] at o
  intro p hp
  exact o _ _ S (Grow.own R.sub hp) ⟨p, [], rfl, upd_same, .nil, R.sub.none hp, hp⟩
/-! ### zip -/
theorem zipI_get : ∀ {xs ys : List Dv} {i : Nat} {d : Dv}, (zipI xs ys)[i]? = some d → ∃ x y, xs[i]? = some x ∧ ys[i]? = some y ∧ d = .tup [x, y]
  | [], _, i, d, h => by unfold zipI at h; cases h
  | _ :: _, [], i, d, h => by unfold zipI at h; cases h
  | x :: xs, y :: ys, 0, d, h => by
    unfold zipI at h
    rw [List.getElem?_cons_zero] at h
    cases h
    exact ⟨x, y, rfl, rfl, rfl⟩
  | x :: xs, y :: ys, i + 1, d, h => by
    unfold zipI at h
    rw [List.getElem?_cons_succ] at h
    obtain ⟨a, b, h1, h2, h3⟩ := zipI_get h
    exact ⟨a, b, by rw [List.getElem?_cons_succ]; exact h1, by rw [List.getElem?_cons_succ]; exact h2, h3⟩
theorem zipI_len : ∀ xs ys : List Dv, (zipI xs ys).length = min xs.length ys.length
  | [], _ => by unfold zipI; simp
  | _ :: _, [] => by unfold zipI; simp
  | x :: xs, y :: ys => by
    unfold zipI
    rw [List.length_cons, List.length_cons, List.length_cons, zipI_len xs ys]
    omega
theorem walks_zip {a b : Addr} {xs ys : List V} {ds es : List Dv} {B S0 : Hp} (h : ∀ H, Sub B H → SqL L.G.K H a xs) (h2 : ∀ H, Sub B H → SqL L.G.K H b ys) (r : RepL L.G S0 xs ds) (r2 : RepL L.G S0 ys es) : Walks L (Itz L.G.K a b) B S0 (zipI ds es) := fun H S i hb hs sub => by
  refine ⟨fun d hd => ?_, fun hi => ⟨xs, ys, h H hb, h2 H hb, ?_⟩⟩
  · obtain ⟨x0, y0, hd1, hd2, rfl⟩ := zipI_get hd
    obtain ⟨v, e, q⟩ := r.get hd1
    obtain ⟨w, e2, q2⟩ := r2.get hd2
    refine ⟨⟨xs, ys, v, w, h H hb, h2 H hb, e, e2⟩, fun x H' ⟨T, u1, u2, e1, hT, e3, hy, hz⟩ => ?_⟩
    have hy := hy xs (h H hb)
    have hz := hz ys (h2 H hb)
    rw [e] at hy
    rw [e2] at hz
    cases hy
    cases hz
    subst e1 e3
    have n1 := sub.none hT
    exact ⟨_, Grow.add sub hT, .tup (.inl (.inl upd_same)) (by show 2 ≤ _; unfold LIM; omega) (.cons ((q.mono hs).mono (.new n1)) (.cons ((q2.mono hs).mono (.new n1)) .nil))⟩
  · rw [zipI_len] at hi
    have l1 := r.len
    have l2 := r2.len
    omega
theorem walks_zipT {a b : Addr} {xs ys : List V} {ds es : List Dv} {B S0 : Hp} (h : ∀ H, Sub B H → SqT L.G.K H a xs) (h2 : ∀ H, Sub B H → SqT L.G.K H b ys) (r : RepL L.G S0 xs ds) (r2 : RepL L.G S0 ys es) : Walks L (ItzT L.G.K a b) B S0 (zipI ds es) := fun H S i hb hs sub => by
  refine ⟨fun d hd => ?_, fun hi => ⟨xs, ys, h H hb, h2 H hb, ?_⟩⟩
  · obtain ⟨x0, y0, hd1, hd2, rfl⟩ := zipI_get hd
    obtain ⟨v, e, q⟩ := r.get hd1
    obtain ⟨w, e2, q2⟩ := r2.get hd2
    refine ⟨⟨xs, ys, v, w, h H hb, h2 H hb, e, e2⟩, fun x H' ⟨T, u1, u2, e1, hT, e3, hy, hz⟩ => ?_⟩
    have hy := hy xs (h H hb)
    have hz := hz ys (h2 H hb)
    rw [e] at hy
    rw [e2] at hz
    cases hy
    cases hz
    subst e1 e3
    have n1 := sub.none hT
    exact ⟨_, Grow.add sub hT, .tup (.inl (.inl upd_same)) (by show 2 ≤ _; unfold LIM; omega) (.cons ((q.mono hs).mono (.new n1)) (.cons ((q2.mono hs).mono (.new n1)) .nil))⟩
  · rw [zipI_len] at hi
    have l1 := r.len
    have l2 := r2.len
    omega
/-- what is gone through, as it stands then -/
theorem view_of {b : Bool} {H S H1 S1 : Hp} (g : Grow H S H1 S1) {sx : Sv} {v : V} {d : Dv} (r : RepV L.G H H1 S1 v sx) (hv : viewS b sx = some d) : ∃ S2, Grow H S H1 S2 ∧ RepB L.G (if b then S2 else H1) S2 v d := by
  cases b with
  | true =>
    unfold viewS at hv
    rw [if_pos rfl] at hv
    obtain ⟨S2, g2, s2, q⟩ := RepV.share2 g r hv
    exact ⟨S2, g2, q.b (.refl S2)⟩
  | false =>
    unfold viewS at hv
    rw [if_neg Bool.false_ne_true] at hv
    cases hv
    exact ⟨S1, g, r.b g.sub⟩
theorem i_zip (co : CallsOk L lv) (xo : XOk L lv se X) {b : Bool} {n : Nat} {a c : Expr} {ma mc : Ex} {p pos tpos : Pos} {elts : List Expr} {kk : Nat} (hx : gloOf se "zip" = some .blt) (ha : cE n se a = some ma) (hc : cE n se c = some mc) (ia : PE X a (tE L lv ma W)) (ic : PE X c (tE L lv mc W)) : PI X (.Tuple elts kk tpos) (.Call (.Name "zip" p) [a, c] [] pos) (tI L lv b (.zip ma mc) W) := by
  obtain ⟨gl, _⟩ := glo_blt xo hx
  have s1 := star_of ha [c] X.env
  have s3 := star_of hc [] X.env
  refine PI.imp (pi_zipA gl (blt_none co xo hx (by decide +kernel)) (pa_cons ia (pa_cons ic pa_nil s3) s1) s1 (by rw [s3]; rfl)) fun σ H Q ⟨F, e, S, R, o⟩ => ?_
  rw [xo.K]
  rw [evalS] at o
  refine tE.bind R (P := fun r => OutI L b W σ H S r Q) outIX (fun h => h) o fun sx v H1 S1 g1 R1 r1 o1 => ?_
  cases hv : viewS b sx with
  | none =>
    refine tE.bind R1 (P := fun r => OutI L b W σ H S r Q) (fun C t h H2 S2 g => outIX C t h H2 S2 (g1.trans g)) (fun h => h) o1 fun sy u H2 S2 g2 R2 r2 o2 => ?_
    rw [hv] at o2
    exact o2.elim
  | some d =>
    obtain ⟨S1', g1', q1⟩ := view_of g1 r1 hv
    refine tE.bind (R.mono g1') (P := fun r => OutI L b W σ H S r Q) (fun C t h H2 S2 g => outIX C t h H2 S2 (g1'.trans g)) (fun h => h) o1 fun sy u H2 S2 g2 R2 r2 o2 => ?_
    rw [hv] at o2
    have o2 : OutI L b W σ H S ((ofO (viewS b sy)).bind fun d2 => (zip2 d d2).bind fun z => .ok z) Q := o2
    cases hv2 : viewS b sy with
    | none => rw [hv2] at o2; exact o2.elim
    | some d2 =>
      rw [hv2] at o2
      have o2 : OutI L b W σ H S ((zip2 d d2).bind fun z => .ok z) Q := o2
      obtain ⟨S3, g3, q2⟩ := view_of g2 r2 hv2
      have q1' : RepB L.G (if b then S3 else H2) S3 v d := by
        cases b with
        | true => exact q1.mono g3.s g3.s
        | false => exact q1.mono g3.h g3.s
      have up : ∀ {K : Hp}, Sub (if b then S3 else H2) K → Sub S3 K := fun {K} hk => by
        cases b with
        | true => exact hk
        | false => exact g3.sub.trans hk
      have toH : Sub (if b then S3 else H2) H2 := by
        cases b with
        | true => exact g3.sub
        | false => exact .refl H2
      have gg := g1'.trans g3
      unfold zip2 at o2
      split at o2
      · rename_i xs ys
        obtain ⟨a1, vs, rfl, l1, z1, k1⟩ := q1'
        obtain ⟨a2, ws, rfl, l2, z2, k2⟩ := q2
        refine ⟨a1, a2, vs, ws, rfl, .inl ⟨toH.sqL l1, toH.sqL l2, ?_⟩⟩
        exact o2 _ H2 S3 gg (walks_zip (fun K hb => hb.sqL l1) (fun K hb => hb.sqL l2) k1 k2) (by rw [zipI_len]; have := k1.len; omega)
      · rename_i xs ys
        cases q1' with
        | tup l1 z1 k1 =>
          cases q2 with
          | tup l2 z2 k2 =>
            refine ⟨_, _, _, _, rfl, .inr ⟨g3.sub.sqT l1, g3.sub.sqT l2, ?_⟩⟩
            exact o2 _ H2 S3 gg (walks_zipT (fun K hb => (up hb).sqT l1) (fun K hb => (up hb).sqT l2) k1 k2) (by rw [zipI_len]; have := k1.len; omega)
      · exact o2.elim
end
end Dg

/-! The evaluator is sound: every expression. -/
namespace Dg
open PySem PySem.Spec L2
section
variable {L : Lk} {lv : Nat}
theorem lk_relab (nm : List (Str × NameKind)) (x : Str) (p : Str → NameKind → Bool) : (nm.map fun (n, k) => if p n k then (n, NameKind.cell) else (n, k)).map (·.1) = nm.map (·.1) := by
  rw [List.map_map]
  congr 1
  funext ⟨n, k⟩
  show ((if p n k then (n, NameKind.cell) else (n, k)) : Str × NameKind).1 = n
  split <;> rfl
theorem relC_eq {X : Cx} {se : SE} (xo : XOk L lv se X) (scope : Scope) : relabel scope X.env = relC scope se.sc := by
  unfold relabel relC
  rw [← xo.sc]
  rfl
theorem xo_blk {X : Cx} {se : SE} (xo : XOk L lv se X) (s : Shared) (H : Hp) (scope : Scope) (C : Addr) (cl : List (Str × Addr)) (fp : List Addr) : XOk L lv (se.inC scope) (X.blk s H scope (compEnvC scope cl C X.env) fp) where
  prog := xo.prog
  w := xo.w
  K := xo.K
  mg := xo.mg
  base := xo.base
  N := xo.N
  sc := relC_eq xo scope
  nd := xo.nd
  calm := xo.calm
  room := xo.room
  gl := xo.gl
  mt := xo.mt
  fl := xo.fl
theorem rel_lookup {p : Str → NameKind → Bool} : ∀ {nm : List (Str × NameKind)} {x : Str} {k : NameKind}, nm.lookup x = some k → (nm.map fun (n, k) => if p n k then (n, NameKind.cell) else (n, k)).lookup x = some (if p x k then .cell else k)
  | [], x, k, h => by cases h
  | (n, j) :: r, x, k, h => by
    rw [List.lookup_cons] at h
    rw [List.map_cons]
    by_cases e : x = n
    · subst e
      simp only [beq_self_eq_true] at h
      cases h
      show List.lookup x ((if p x j then (x, NameKind.cell) else (x, j)) :: _) = some (if p x j then .cell else j)
      split
      · rw [List.lookup_cons]; simp
      · rw [List.lookup_cons]; simp
    · have e1 : (x == n) = false := by simpa using e
      rw [e1] at h
      have h2 := rel_lookup (p := p) h
      have e2 : ((if p n j then (n, NameKind.cell) else (n, j)) : Str × NameKind).1 = n := by split <;> rfl
      show List.lookup x ((if p n j then (n, NameKind.cell) else (n, j)) :: _) = _
      generalize hq : ((if p n j then (n, NameKind.cell) else (n, j)) : Str × NameKind) = q at e2
      obtain ⟨q1, q2⟩ := q
      cases e2
      rw [List.lookup_cons, e1]
      exact h2
theorem stores_blk {X : Cx} {se : SE} (xo : XOk L lv se X) (s : Shared) (H : Hp) (scope : Scope) (C : Addr) (cl : List (Str × Addr)) (fp : List Addr) : Stores (X.blk s H scope (compEnvC scope cl C X.env) fp) { se with sc := scope } := fun x i h => by
  unfold stoOf at h
  split at h
  · rename_i e
    have e : lkS x scope.names = some .local := e
    rw [lkS_eq] at e
    have h2 : (relabel scope X.env).names.lookup x = some .local := lookup_relabel_local e
    exact ⟨by show X.N[i]? = _; rw [xo.N]; exact ixOf_get h, .inl h2, .inr h2⟩
  · rename_i e
    have e : lkS x scope.names = some .cell := e
    rw [lkS_eq] at e
    have h2 : (relabel scope X.env).names.lookup x = some .cell := by
      have := rel_lookup (p := fun n k => k == NameKind.free && X.env.scope.kind == .function && X.env.kindOf n == some .cell) e
      unfold relabel
      rw [this]
      split <;> rfl
    exact ⟨by show X.N[i]? = _; rw [xo.N]; exact ixOf_get h, .inr h2, .inl (by show (scope.names.lookup x == some .cell) = true; rw [e]; rfl)⟩
  · cases h
theorem ownOf_map {se : SE} {scope : Scope} : True := trivial
theorem pt_of {X : Cx} {W : WX} {e : Expr} {m : Ex} (h : PE X e (tE L lv m W)) (he : ∀ whole, isTrue e X.env whole = (do let v ← whole; standAt e.pos; holding [v] (truthy v))) : PT X e (tT L lv m W) := PT.imp (pt_val h he) fun σ H Q q => tT_B q
structure SndAt (L : Lk) (lv n : Nat) : Prop where
  e : ∀ {se : SE} {X : Cx} {W : WX} {e : Expr} {m : Ex}, XOk L lv se X → Takes X W → cE n se e = some m → PE X e (tE L lv m W) ∧ PT X e (tT L lv m W)
  es : ∀ {se : SE} {X : Cx} {W : WX} {es : List Expr} {ms : Exs}, XOk L lv se X → Takes X W → cEs n se es = some ms → PA X es (tA L lv ms W) ∧ PA X es (tAB L lv ms W)
  o : ∀ {se : SE} {X : Cx} {W : WX} {o : Option Expr} {m : Ox}, XOk L lv se X → Takes X W → cO n se o = some m → PO X o (tO L lv m W)
  ifs : ∀ {se : SE} {X : Cx} {W : WX} {l : List Expr} {m : Ox}, XOk L lv se X → Takes X W → cIf n se l = some m → PTs X l (tC1 L lv m W)
  rng : ∀ {se : SE} {X : Cx} {W : WX} {x : Str} {args : List Expr} {m : Ex} {p pos : Pos}, XOk L lv se X → Takes X W → gloOf se x = some .blt → cRng n se x args = some m → PE X (.Call (.Name x p) args [] pos) (tE L lv m W)
  inR : ∀ {se : SE} {X : Cx} {W : WX} {op : CmpOp} {b : Expr} {k : Bool} {z : Ex}, XOk L lv se X → Takes X W → cInR n se op b = some (k, z) → ∃ m p c pos, b = .Call (.Name "range" p) [c] [] pos ∧ ((op = .In ∧ k = false) ∨ (op = .NotIn ∧ k = true)) ∧ gloOf se "range" = some .blt ∧ cE m se c = some z ∧ PE X c (tE L lv z W)
  src : ∀ {se : SE} {X : Cx} {W : WX} {tup : Bool} {e : Expr} {s : Src} (tg : Expr) (b : Bool), isTup tg = tup → XOk L lv se X → Takes X W → cSrc n se tup e = some s → PI X tg e (tI L lv b s W) ∧ ∀ env x, foldedSetIterable e env x = pure x
  srcC : ∀ {se : SE} {X : Cx} {W : WX} {tup : Bool} {e : Expr} {s : Src} (tg : Expr) (b : Bool), isTup tg = tup → XOk L lv se X → Takes X W → cSrcC n se tup e = some s → PI X tg e (tI L lv b s W) ∧ ∀ env x, foldedSetIterable e env x = pure x
theorem snd_zero : SndAt L lv 0 where
  e := fun _ _ h => by unfold cE at h; cases h
  es := fun {se X W es ms} xo tk h => by
    cases es with
    | nil => unfold cEs at h; cases h; exact ⟨a_nil, b_nil⟩
    | cons a r => unfold cEs at h; cases h
  o := fun {se X W o m} xo tk h => by
    cases o with
    | none => unfold cO at h; cases h; exact o_none
    | some a => unfold cO at h; cases h
  ifs := fun _ _ h => by unfold cIf at h; cases h
  rng := fun _ _ _ h => by unfold cRng at h; cases h
  inR := fun _ _ h => by unfold cInR at h; cases h
  src := fun _ _ _ _ _ h => by unfold cSrc at h; cases h
  srcC := fun _ _ _ _ _ h => by unfold cSrcC at h; cases h
theorem snd_lists {n : Nat} (I : SndAt L lv n) {se : SE} {X : Cx} {W : WX} {es : List Expr} {ms : Exs} (xo : XOk L lv se X) (tk : Takes X W) (h : cEs (n + 1) se es = some ms) : PA X es (tA L lv ms W) ∧ PA X es (tAB L lv ms W) := by
  cases es with
  | nil => unfold cEs at h; cases h; exact ⟨a_nil, b_nil⟩
  | cons a r =>
    unfold cEs at h
    cases h1 : cE n se a with
    | none => rw [h1] at h; cases h
    | some x =>
      cases h2 : cEs n se r with
      | none => rw [h1, h2] at h; cases h
      | some xs =>
        rw [h1, h2] at h
        cases h
        obtain ⟨p1, p2⟩ := I.es xo tk h2
        exact ⟨a_cons h1 (I.e xo tk h1).1 p1, b_cons h1 (I.e xo tk h1).1 p2⟩
theorem snd_o {n : Nat} (I : SndAt L lv n) {se : SE} {X : Cx} {W : WX} {o : Option Expr} {m : Ox} (xo : XOk L lv se X) (tk : Takes X W) (h : cO (n + 1) se o = some m) : PO X o (tO L lv m W) := by
  cases o with
  | none => unfold cO at h; cases h; exact o_none
  | some a =>
    unfold cO at h
    cases h1 : cE n se a with
    | none => rw [h1] at h; cases h
    | some x => rw [h1] at h; cases h; exact o_some (I.e xo tk h1).1
theorem snd_if {n : Nat} (I : SndAt L lv n) {se : SE} {X : Cx} {W : WX} {l : List Expr} {m : Ox} (xo : XOk L lv se X) (tk : Takes X W) (h : cIf (n + 1) se l = some m) : PTs X l (tC1 L lv m W) := by
  unfold cIf at h
  split at h
  · cases h; exact c_none
  · rename_i c
    cases h1 : cE n se c with
    | none => rw [h1] at h; cases h
    | some x => rw [h1] at h; cases h; exact c_some (I.e xo tk h1).2
  · cases h
theorem snd_rng {n : Nat} (co : CallsOk L lv) (I : SndAt L lv n) {se : SE} {X : Cx} {W : WX} {x : Str} {args : List Expr} {m : Ex} {p pos : Pos} (xo : XOk L lv se X) (tk : Takes X W) (hx : gloOf se x = some .blt) (h : cRng (n + 1) se x args = some m) :
    PE X (.Call (.Name x p) args [] pos) (tE L lv m W) := by
  unfold cRng at h
  split at h
  · rename_i a y q
    split at h
    · rename_i hn
      cases sEqs hn
      split at h
      · rename_i C z hg hz
        split at h
        · cases h
        · rename_i hd
          cases h
          exact e_isa co xo hx hg (by simpa using hd) hz (I.e xo tk hz).1
      · rename_i C z hg hz
        split at h
        · cases h
        · rename_i hd
          cases h
          exact e_isc co xo hx hg (by simpa using hd) hz (I.e xo tk hz).1
      · rename_i z hg hz
        split at h
        · rename_i hv
          cases sEqs hv
          cases h
          exact e_isv co xo hx hg hz (I.e xo tk hz).1
        · split at h
          · rename_i T hT
            cases h
            exact e_isty co xo hx hg hT hz (I.e xo tk hz).1
          · cases h
      · cases h
    · cases h
  · rename_i y q a q2
    split at h
    · rename_i hn
      cases sEqs hn
      split at h
      · rename_i z hg hz
        split at h
        · rename_i hn
          cases sEqs hn
          cases h
          exact e_rngL co xo hx hg hz (I.e xo tk hz).1
        · split at h
          · rename_i hn
            cases sEqs hn
            cases h
            exact e_rngT co xo hx hg hz (I.e xo tk hz).1
          · cases h
      · cases h
    · split at h
      · rename_i hn
        cases sEqs hn
        split at h
        · rename_i z hg hz
          split at h
          · rename_i hn
            cases sEqs hn
            cases h
            exact e_revT co xo hx hg hz (I.e xo tk hz).1
          · split at h
            · rename_i hn
              cases sEqs hn
              cases h
              exact e_revL co xo hx hg hz (I.e xo tk hz).1
            · cases h
        · rename_i hg _
          split at h
          · split at h
            · rename_i hn
              cases sEqs hn
              split at h
              · rename_i m hg3 hm
                split at h
                · rename_i hn
                  cases sEqs hn
                  cases h
                  exact e_revR co xo hx hg hg3 hm (I.e xo tk hm).1
                · cases h
              · cases h
            · cases h
          · cases h
        · cases h
      · split at h
        · rename_i hn
          cases sEqs hn
          split at h
          · rename_i z hg hz
            split at h
            · rename_i hn
              cases sEqs hn
              cases h
              exact e_lset co xo hx hg hz (I.e xo tk hz).1
            · split at h
              · rename_i hn
                cases sEqs hn
                cases h
                exact e_sset co xo hx hg hz (I.e xo tk hz).1
              · cases h
          · cases h
        · cases h
  · cases h
theorem snd_inR {n : Nat} (I : SndAt L lv n) {se : SE} {X : Cx} {W : WX} {op : CmpOp} {b : Expr} {k : Bool} {z : Ex} (xo : XOk L lv se X) (tk : Takes X W) (h : cInR (n + 1) se op b = some (k, z)) :
    ∃ m p c pos, b = .Call (.Name "range" p) [c] [] pos ∧ ((op = .In ∧ k = false) ∨ (op = .NotIn ∧ k = true)) ∧ gloOf se "range" = some .blt ∧ cE m se c = some z ∧ PE X c (tE L lv z W) := by
  unfold cInR at h
  split at h
  · rename_i x p a pos
    split at h
    · rename_i hn
      cases sEqs hn
      split at h
      · rename_i y hg hy
        cases h
        exact ⟨n, p, a, pos, rfl, .inl ⟨rfl, rfl⟩, hg, hy, (I.e xo tk hy).1⟩
      · cases h
    · cases h
  · rename_i x p a pos
    split at h
    · rename_i hn
      cases sEqs hn
      split at h
      · rename_i y hg hy
        cases h
        exact ⟨n, p, a, pos, rfl, .inr ⟨rfl, rfl⟩, hg, hy, (I.e xo tk hy).1⟩
      · cases h
    · cases h
  · cases h
theorem snd_srcC {n : Nat} (co : CallsOk L lv) (I : SndAt L lv n) {se : SE} {X : Cx} {W : WX} {tup : Bool} {e : Expr} {s : Src} (tg : Expr) (b : Bool) (ht : isTup tg = tup) (xo : XOk L lv se X) (tk : Takes X W) (h : cSrcC (n + 1) se tup e = some s) :
    PI X tg e (tI L lv b s W) ∧ ∀ env x, foldedSetIterable e env x = pure x := by
  unfold cSrcC at h
  split at h
  · rename_i x p a pos
    split at h
    · rename_i hn
      cases sEqs hn
      split at h
      · rename_i y hg hy
        cases h
        exact ⟨i_rng1 co xo hg hy (I.e xo tk hy).1, fun _ _ => rfl⟩
      · cases h
    · split at h
      · rename_i hn
        cases sEqs hn
        split at h
        · rename_i y hg hy
          cases h
          exact ⟨i_rev co xo hg hy (I.e xo tk hy).1, fun _ _ => rfl⟩
        · cases h
      · split at h
        · rename_i hn
          obtain ⟨hn, htp⟩ := Bool.and_eq_true_iff.mp hn
          cases sEqs hn
          split at h
          · rename_i y hg hy
            cases h
            rw [htp] at ht
            cases tg with
            | Tuple elts kk tpos => exact ⟨i_enum co xo hg hy (I.e xo tk hy).1, fun _ _ => rfl⟩
            | _ => cases ht
          · cases h
        · cases h
  · rename_i x p a c pos
    split at h
    · rename_i hn
      cases sEqs hn
      split at h
      · rename_i y z hg hy hz
        cases h
        exact ⟨i_rng2 co xo hg hy hz (I.e xo tk hy).1 (I.e xo tk hz).1, fun _ _ => rfl⟩
      · cases h
    · split at h
      · rename_i hn
        obtain ⟨hn, htp⟩ := Bool.and_eq_true_iff.mp hn
        cases sEqs hn
        split at h
        · rename_i y z hg hy hz
          cases h
          rw [htp] at ht
          cases tg with
          | Tuple elts kk tpos => exact ⟨i_zip co xo hg hy hz (I.e xo tk hy).1 (I.e xo tk hz).1, fun _ _ => rfl⟩
          | _ => cases ht
        · cases h
      · cases h
  · rename_i x p a c d pos
    split at h
    · rename_i hn
      cases sEqs hn
      split at h
      · rename_i y z s hg hy hz hs
        cases h
        exact ⟨i_rngC co xo hg hy hz hs (I.e xo tk hy).1 (I.e xo tk hz).1 (I.e xo tk hs).1, fun _ _ => rfl⟩
      · rename_i y z s _ hg hy hz hs
        cases h
        exact ⟨i_rng3 co xo hg hy hz hs (I.e xo tk hy).1 (I.e xo tk hz).1 (I.e xo tk hs).1, fun _ _ => rfl⟩
      · cases h
    · cases h
  · cases h
theorem snd_src {n : Nat} (I : SndAt L lv n) {se : SE} {X : Cx} {W : WX} {tup : Bool} {e : Expr} {s : Src} (tg : Expr) (b : Bool) (ht : isTup tg = tup) (xo : XOk L lv se X) (tk : Takes X W) (h : cSrc (n + 1) se tup e = some s) :
    PI X tg e (tI L lv b s W) ∧ ∀ env x, foldedSetIterable e env x = pure x := by
  unfold cSrc at h
  split at h
  · rename_i s' hs
    cases h
    exact I.srcC tg b ht xo tk hs
  · split at h
    · rename_i x hx
      cases h
      exact ⟨i_seq xo (I.e xo tk hx).1, fun env => nofold hx env⟩
    · cases h
theorem cst_of (co : CallsOk L lv) {se : SE} {X : Cx} {W : WX} (xo : XOk L lv se X) {x : Str} {d : Dv} {p : Pos} (hx : gloOf se x = some (.own (.cst d))) (hd : sEq x "__debug__" = false) : PE X (.Name x p) (tE L lv (.cst d) W) := by
  obtain ⟨gl, lk⟩ := glo_own xo hx
  obtain ⟨v, u, h1, h2, h3⟩ := co.cst x d lk
  exact e_cst (pe_glob gl (by rw [xo.mg]; exact h1) h2 (sNe hd)) h3
theorem own_eq {se : SE} {scope : Scope} {own : List (Str × Nat)} (h : blkC se.N se.sc scope own = true) {X : Cx} (xo : XOk L lv se X) : BlkOk X.N X.env.scope scope own := by
  rw [xo.N, xo.sc]
  exact blkOk_by h
theorem and_t {a b : Bool} (h : (a && b) = true) : a = true ∧ b = true := Bool.and_eq_true_iff.mp h
theorem or_f {a b : Bool} (h : ¬ (a || b) = true) : a = false ∧ b = false := by
  cases a <;> cases b <;> simp_all
theorem dbg_ne {x : Str} (h : sEq x "__name__" = false) : x ≠ "__name__" := sNe' h
/-- a comprehension -/
theorem e_comp {n : Nat} (I : SndAt L lv n) {se : SE} {X : Cx} {W : WX} {elt tg iter : Expr} {ifs : List Expr} {scope : Scope} {pos : Pos} {own : List (Str × Nat)} {s : Src} {t : Tg} {c : Ox} {x : Ex} (xo : XOk L lv se X) (tk : Takes X W)
    (hb : blkC se.N se.sc scope own = true) (hs : cSrc n se (isTup tg) iter = some s) (ht : cTg { se with sc := scope } false tg = some t) (hc : cIf n (se.inC scope) ifs = some c) (hx : cE n (se.inC scope) elt = some x) (ti : tgIn (own.map (·.2)) t = true) :
    PE X (.ListComp elt [⟨tg, iter, ifs, 0⟩] scope pos) (tE L lv (.comp (own.map (·.2)) t s c x) W) := by
  obtain ⟨i1, i2⟩ := I.src tg false rfl xo tk hs
  refine PE.imp (pe_lc xo.calm xo.nd i1 (own_eq hb xo) (fun s H C cl fp => ?_) (fun s H C cl fp => I.ifs (xo_blk xo s H scope C cl fp) takes_no hc) (fun s H C cl fp => (I.e (xo_blk xo s H scope C cl fp) takes_no hx).1) (i2 X.env)) fun σ H Q h => lc_read (W := W) ti h
  have := pg_of (X := X.blk s H scope (compEnvC scope cl C X.env) fp) xo.calm xo.nd (stores_blk xo s H scope C cl fp) ht
  rw [show (X.blk s H scope (compEnvC scope cl C X.env) fp).K = L.G.K from xo.K] at this
  exact this
theorem snd_e {n : Nat} (co : CallsOk L lv) (I : SndAt L lv n) {se : SE} {X : Cx} {W : WX} {e : Expr} {m : Ex} (xo : XOk L lv se X) (tk : Takes X W) (h : cE (n + 1) se e = some m) : PE X e (tE L lv m W) ∧ PT X e (tT L lv m W) := by
  have val : ∀ {e : Expr} {m : Ex}, PE X e (tE L lv m W) → (∀ whole, isTrue e X.env whole = (do let v ← whole; standAt e.pos; holding [v] (truthy v))) → PE X e (tE L lv m W) ∧ PT X e (tT L lv m W) := fun p q => ⟨p, pt_of p q⟩
  unfold cE at h
  split at h
  · -- a name
    rename_i x p
    split at h
    · rename_i i hi
      split at h
      · cases h
      · rename_i hd
        obtain ⟨d1, d2⟩ := or_f hd
        cases h
        exact val (e_var xo hi d1 d2) fun _ => rfl
    · split at h
      · rename_i d hg
        split at h
        · cases h
        · rename_i hd
          cases h
          exact val (cst_of co xo hg (by simpa using hd)) fun _ => rfl
      · cases h
  · cases h; exact val (e_cst pe_int fun S => .int _) fun _ => rfl
  · cases h; exact val (e_cst pe_bl fun S => .bl _) fun _ => rfl
  · cases h; exact val (e_cst pe_non fun S => .non) fun _ => rfl
  · cases h; exact val (e_cst pe_str fun S => .str _) fun _ => rfl
  · -- a binary operator
    split at h
    · rename_i x y hx hy
      cases h
      exact val (e_bin xo (I.e xo tk hx).1 (I.e xo tk hy).1) fun _ => rfl
    · cases h
  · -- not
    split at h
    · rename_i x hx
      cases h
      exact ⟨e_not xo (I.e xo tk hx).1, t_not xo (I.e xo tk hx).2⟩
    · cases h
  · split at h
    · rename_i x hx
      cases h
      exact val (e_neg xo (I.e xo tk hx).1) fun _ => rfl
    · cases h
  · -- and, or
    rename_i op a p
    obtain ⟨i1, i2⟩ := I.e xo tk h
    exact ⟨pe_one i1, t_one i2⟩
  · split at h
    · rename_i x y hx hy
      cases h
      exact ⟨e_and xo (I.e xo tk hx).1 (I.e xo tk hy).1, t_and xo (I.e xo tk hx).2 (I.e xo tk hy).2⟩
    · cases h
  · split at h
    · rename_i x y hx hy
      cases h
      exact ⟨e_or xo (I.e xo tk hx).1 (I.e xo tk hy).1, t_or xo (I.e xo tk hx).2 (I.e xo tk hy).2⟩
    · cases h
  · -- comparisons
    split at h
    · rename_i k z x hk hx
      cases h
      obtain ⟨m, p, c, pos, rfl, ho, hg, hc, ic⟩ := I.inR xo tk hk
      exact e_inR (m := m) co xo ho hg hc (I.e xo tk hx).1 ic
    · rename_i x y _ hx hy
      cases h
      exact ⟨e_cmp xo hy (I.e xo tk hx).1 (I.e xo tk hy).1, t_cmp xo hy (I.e xo tk hx).1 (I.e xo tk hy).1⟩
    · cases h
  · split at h
    · rename_i x y z hx hy hz
      cases h
      exact ⟨e_cmp2 xo hy hz (I.e xo tk hx).1 (I.e xo tk hy).1 (I.e xo tk hz).1, t_cmp2 xo hy hz (I.e xo tk hx).1 (I.e xo tk hy).1 (I.e xo tk hz).1⟩
    · cases h
  · -- displays
    split at h
    · rename_i xs hxs
      split at h
      · rename_i hl
        cases h
        exact val (e_tup hxs hl (I.es xo tk hxs).1) fun _ => rfl
      · cases h
    · cases h
  · split at h
    · rename_i xs hxs
      split at h
      · rename_i hl
        cases h
        exact val (e_lst hxs hl (I.es xo tk hxs).1) fun _ => rfl
      · cases h
    · cases h
  · cases h; exact val e_dct0 fun _ => rfl
  · -- a slice
    split at h
    · rename_i x l u hx hl hu
      cases h
      exact val (e_slc xo (I.e xo tk hx).1 (I.o xo tk hl) (I.o xo tk hu)) fun _ => rfl
    · cases h
  · split at h
    · rename_i x y hx hy
      cases h
      exact val (e_idx xo hy (I.e xo tk hx).1 (I.e xo tk hy).1) fun _ => rfl
    · cases h
  · -- a field
    split at h
    · cases h
    · rename_i hb
      split at h
      · rename_i x j hx hj
        cases h
        exact val (e_fld co xo (by simpa using hb) hj (I.e xo tk hx).1) fun _ => rfl
      · cases h
  · -- a call
    split at h
    · cases h
    · rename_i hd
      obtain ⟨d1, d2⟩ := or_f hd
      split at h
      · rename_i f hg
        split at h
        · rename_i xs hxs
          split at h
          · cases h
            exact val (e_callB tk co xo hg d1 hxs (I.es xo tk hxs).2) fun _ => rfl
          · split at h
            · cases h
            · cases h
              exact val (e_call tk co xo hg d1 hxs (I.es xo tk hxs).1) fun _ => rfl
        · cases h
      · rename_i C hg
        split at h
        · rename_i xs hxs
          cases h
          exact val (e_make tk co xo hg d1 hxs (I.es xo tk hxs).1) fun _ => rfl
        · cases h
      · rename_i hg
        split at h
        · rename_i m' hm
          cases h
          exact val (I.rng xo tk hg hm) fun _ => rfl
        · split at h
          · rename_i id xs hid hxs
            cases h
            exact val (e_bc (k := 0) co xo hg hid hxs (I.es xo tk hxs).2) fun _ => rfl
          · cases h
      · cases h
  · -- a method
    split at h
    · cases h
    · rename_i hd
      obtain ⟨d1, d2⟩ := or_f hd
      obtain ⟨d3, d4⟩ := or_f (by rw [d1]; exact Bool.false_ne_true)
      split at h
      · rename_i k x xs hk hx hxs
        cases h
        obtain ⟨C, f⟩ := k
        exact val (e_meth tk co xo hk d3 (by simpa using d4) (by simpa using d2) hxs (I.e xo tk hx).1 (I.es xo tk hxs).1) fun _ => rfl
      · rename_i x xs hk hx hxs
        split at h
        · rename_i hn
          obtain ⟨hn1, hn2⟩ := Bool.and_eq_true_iff.mp hn
          cases sEqs hn1
          cases h
          rename_i args _ _ _ _
          match args, hn2, hxs, d2 with
          | [b], _, hxs, d2 => exact val (e_lix xo d3 (by simpa using d4) (by simpa using d2) hxs (I.e xo tk hx).1 (I.es xo tk hxs).2) fun _ => rfl
        · cases h
      · cases h
  · -- a comprehension
    split at h
    · rename_i own hown
      split at h
      · rename_i hb
        split at h
        · rename_i s t c x hs ht hc hx
          split at h
          · rename_i hti
            cases h
            exact val (e_comp I xo tk hb hs ht hc hx (and_t hti).1) fun _ => rfl
          · cases h
        · cases h
      · cases h
    · cases h
  · cases h
theorem snd_all (co : CallsOk L lv) : ∀ n, SndAt L lv n
  | 0 => snd_zero
  | n + 1 =>
    let I := snd_all co n
    { e := fun xo tk h => snd_e co I xo tk h
      es := fun xo tk h => snd_lists I xo tk h
      o := fun xo tk h => snd_o I xo tk h
      ifs := fun xo tk h => snd_if I xo tk h
      rng := fun xo tk hx h => snd_rng co I xo tk hx h
      inR := fun xo tk h => snd_inR I xo tk h
      src := fun tg b ht xo tk h => snd_src I tg b ht xo tk h
      srcC := fun tg b ht xo tk h => snd_srcC co I tg b ht xo tk h }
end
end Dg

/-! The evaluator is sound: statements. -/
namespace Dg
open PySem PySem.Spec L2
section
variable {L : Lk} {lv : Nat} {se : SE} {X : Cx} {W : WX}
/-! ### frames -/
theorem InnL.agree {G : Gx} {H0 H S H' S' : Hp} (s : Sub S S') : ∀ {bs : List Addr} {dss : List (List Dv)}, InnL G H0 H S bs dss → (∀ b ∈ bs, H' b = H b ∧ S' b = S b) → InnL G H0 H' S' bs dss
  | [], [], _, _ => trivial
  | b :: bs, ds :: dss, ⟨⟨xs, h, z, q, n, f⟩, t⟩, k => ⟨⟨xs, by rw [(k b List.mem_cons_self).1]; exact h, z, q.mono s, by rw [(k b List.mem_cons_self).2]; exact n, f⟩, InnL.agree s t fun c hc => k c (List.mem_cons_of_mem _ hc)⟩
  | [], _ :: _, h, _ => h.elim
  | _ :: _, [], h, _ => h.elim
/-- what a slot owns is left alone -/
theorem Own.agree {G : Gx} {F : Fm} {H S H' S' : Hp} {sv : Sv} {v : V} (s : Sub S S') (r : Own G F H S v sv) (k : ∀ b, ownA H sv v b → H' b = H b ∧ S' b = S b) : Own G F H' S' v sv := by
  cases sv with
  | sh d => exact RepS.mono s r
  | m1 ds =>
    obtain ⟨a, xs, rfl, h, z, q, n, f⟩ := r
    obtain ⟨k1, k2⟩ := k a rfl
    exact ⟨a, xs, rfl, by rw [k1]; exact h, z, q.mono s, by rw [k2]; exact n, f⟩
  | l1 ds =>
    obtain ⟨a, xs, rfl, h, z, q, n, f⟩ := r
    obtain ⟨k1, k2⟩ := k a rfl
    exact ⟨a, xs, rfl, by rw [k1]; exact h, z, q.mono s, by rw [k2]; exact n, f⟩
  | o1 C fs =>
    obtain ⟨a, dx, xs, rfl, h, c, q, n, f⟩ := r
    obtain ⟨k1, k2⟩ := k a rfl
    exact ⟨a, dx, xs, rfl, by rw [k1]; exact h, c, q.mono s, by rw [k2]; exact n, f⟩
  | d1 kvs =>
    obtain ⟨a, kv, rfl, h, q, n, f⟩ := r
    obtain ⟨k1, k2⟩ := k a rfl
    exact ⟨a, kv, rfl, by rw [k1]; exact h, q.mono s, by rw [k2]; exact n, f⟩
  | l2 dss =>
    obtain ⟨a, bs, rfl, h, z, q, nd, na, n, f⟩ := r
    obtain ⟨k1, k2⟩ := k a (.inl rfl)
    exact ⟨a, bs, rfl, by rw [k1]; exact h, z, q.agree s fun b hb => k b (.inr ⟨bs, h, hb⟩), nd, na, by rw [k2]; exact n, f⟩
  | bw d => exact r.elim
theorem own_free {G : Gx} {F : Fm} {H S : Hp} {sv : Sv} {v : V} {b : Addr} (r : Own G F H S v sv) (o : ownA H sv v b) : F.H0 b = none ∨ b ∈ F.M := by
  cases sv with
  | sh d => exact o.elim
  | m1 ds =>
    obtain ⟨a, xs, rfl, h, z, q, n, f⟩ := r
    obtain rfl : b = a := o
    exact .inr f
  | l1 ds =>
    obtain ⟨a, xs, rfl, h, z, q, n, f⟩ := r
    obtain rfl : b = a := o
    exact .inl f
  | o1 C fs =>
    obtain ⟨a, dx, xs, rfl, h, c, q, n, f⟩ := r
    obtain rfl : b = a := o
    exact .inr f
  | d1 kvs =>
    obtain ⟨a, kv, rfl, h, q, n, f⟩ := r
    obtain rfl : b = a := o
    exact .inl f
  | l2 dss =>
    obtain ⟨a, bs, rfl, h, z, q, nd, na, n, f⟩ := r
    rcases o with rfl | ⟨cs, e, hc⟩
    · exact .inl f
    · rw [h] at e
      injection e with e
      injection e with e
      rw [← ref_inj e] at hc
      exact .inl (q.at hc).2.2
  | bw d => exact r.elim
theorem own_pl {G : Gx} {F : Fm} {H S : Hp} {sv : Sv} {v : V} {b : Addr} {o : HO} (r : Own G F H S v sv) (ho : ownA H sv v b) (hb : H b = some o) : Pl o := by
  cases sv with
  | sh d => exact ho.elim
  | m1 ds =>
    obtain ⟨a, xs, rfl, h, _⟩ := r
    obtain rfl : b = a := ho
    rw [hb] at h
    cases h
    exact fun _ _ z => by cases z
  | l1 ds =>
    obtain ⟨a, xs, rfl, h, _⟩ := r
    obtain rfl : b = a := ho
    rw [hb] at h
    cases h
    exact fun _ _ z => by cases z
  | o1 C fs =>
    obtain ⟨a, dx, xs, rfl, h, _⟩ := r
    obtain rfl : b = a := ho
    rw [hb] at h
    cases h
    exact fun _ _ z => by cases z
  | d1 kvs =>
    obtain ⟨a, kv, rfl, h, _⟩ := r
    obtain rfl : b = a := ho
    rw [hb] at h
    cases h
    exact fun _ _ z => by cases z
  | l2 dss =>
    obtain ⟨a, bs, rfl, h, _, q, _⟩ := r
    rcases ho with rfl | ⟨cs, e, hc⟩
    · rw [hb] at h
      cases h
      exact fun _ _ z => by cases z
    · rw [h] at e
      injection e with e
      injection e with e
      rw [← ref_inj e] at hc
      obtain ⟨⟨xs, h1⟩, _⟩ := q.at hc
      rw [hb] at h1
      cases h1
      exact fun _ _ z => by cases z
  | bw d => exact r.elim
/-- what a slot owns is written -/
theorem Rel.change {G : Gx} {F : Fm} {e : Env} {σ : L2.St} {H S H' : Hp} (R : Rel G F e σ H S) {i : Nat} {sv sv' : Sv} {v : V} (h : slot e i = some sv) (hv : σ[i]? = some (some v))
    (eqo : ∀ b, ¬ ownA H sv v b → H' b = H b) (some' : ∀ b, ownA H sv v b → H' b ≠ none) (own' : Own G F H' S v sv') (sub' : ∀ b, ownA H' sv' v b → ownA H sv v b) : Rel G F (e.set i (some sv')) σ H' S := by
  obtain ⟨v2, e2, ow⟩ := R.sl i sv h
  rw [hv] at e2
  cases e2
  have other : ∀ {j : Nat} {sw : Sv} {w : V} {b : Addr}, j ≠ i → slot e j = some sw → σ[j]? = some (some w) → ownA H sw w b → ¬ ownA H sv v b := fun {j sw w b} hj h1 h2 h3 h4 => R.ap i j sv sw v w b (Ne.symm hj) h h1 hv h2 h4 h3
  have back : ∀ {j : Nat} {sw : Sv} {w : V} {b : Addr}, j ≠ i → slot e j = some sw → σ[j]? = some (some w) → ownA H' sw w b → ownA H sw w b := fun {j sw w b} hj h1 h2 h3 => by
    obtain ⟨w', k1, k2⟩ := R.sl j sw h1
    rw [h2] at k1
    cases k1
    refine ownA_back k2 (fun c ec => ?_) h3
    subst ec
    cases sw with
    | sh d => exact h3.elim
    | bw d => exact k2.elim
    | l1 ds => exact eqo c (other hj h1 h2 rfl)
    | m1 ds => exact eqo c (other hj h1 h2 rfl)
    | o1 C fs => exact eqo c (other hj h1 h2 rfl)
    | d1 kvs => exact eqo c (other hj h1 h2 rfl)
    | l2 dss => exact eqo c (other hj h1 h2 (.inl rfl))
  exact {
    sub := fun b o q => by
      rw [eqo b fun z => by rw [(own_there ow z).2] at q; cases q]
      exact R.sub _ _ q
    old := fun b o m q => by
      rw [eqo b fun z => by
        rcases own_free ow z with z | z
        · rw [q] at z; cases z
        · exact m z]
      exact R.old b o m q
    keep := fun b q z => by
      by_cases ho : ownA H sv v b
      · exact some' b ho z
      · rw [eqo b ho] at z
        exact R.keep b q z
    s0 := R.s0
    new := R.new
    len := by rw [List.length_set]; exact R.len
    sl := fun j sw q => by
      rcases slot_set q with ⟨rfl, q2⟩ | ⟨hne, q⟩
      · cases q2
        exact ⟨v, hv, own'⟩
      · obtain ⟨w, h1, h2⟩ := R.sl j sw q
        exact ⟨w, h1, h2.agree (.refl S) fun b hb => ⟨eqo b (other hne q h1 hb), rfl⟩⟩
    ap := fun j k sw su w u b hjk h1 h2 h3 h4 h5 h6 => by
      rcases slot_set h1 with ⟨rfl, e1⟩ | ⟨n1, e1⟩
      · cases e1
        rw [hv] at h3
        cases h3
        rcases slot_set h2 with ⟨rfl, e2⟩ | ⟨n2, e2⟩
        · exact hjk rfl
        · exact other n2 e2 h4 (back n2 e2 h4 h6) (sub' b h5)
      · rcases slot_set h2 with ⟨rfl, e2⟩ | ⟨n2, e2⟩
        · cases e2
          rw [hv] at h4
          cases h4
          exact other n1 e1 h3 (back n1 e1 h3 h5) (sub' b h6)
        · exact R.ap j k sw su w u b hjk e1 e2 h3 h4 (back n1 e1 h3 h5) (back n2 e2 h4 h6) }
open Classical in
/-- what a slot owns is shared from now on -/
theorem Rel.freeze {G : Gx} {F : Fm} {e : Env} {σ : L2.St} {H S : Hp} (R : Rel G F e σ H S) {i : Nat} {sv : Sv} {v : V} {d : Dv} (h : slot e i = some sv) (hv : σ[i]? = some (some v)) (fr : ∀ b, ownA H sv v b → F.H0 b = none)
    (rep : ∀ S', Sub S S' → (∀ b, ownA H sv v b → S' b = H b) → RepS G S' v d) : ∃ S', Sub S S' ∧ Rel G F (e.set i (some (.sh d))) σ H S' := by
  obtain ⟨v2, e2, ow⟩ := R.sl i sv h
  rw [hv] at e2
  cases e2
  have up : Sub S (fun b => if ownA H sv v b then H b else S b) := fun b o q => by
    show (if ownA H sv v b then H b else S b) = _
    rw [if_neg fun z => by rw [(own_there ow z).2] at q; cases q]
    exact q
  refine ⟨fun b => if ownA H sv v b then H b else S b, up, ?_⟩
  exact {
    sub := fun b o q => by
      have q : (if ownA H sv v b then H b else S b) = some o := q
      split at q
      · exact q
      · exact R.sub _ _ q
    old := R.old
    keep := R.keep
    s0 := R.s0.trans up
    new := fun b o q => by
      have q : (if ownA H sv v b then H b else S b) = some o := q
      split at q
      · rename_i z
        exact .inr ⟨fr b z, own_pl ow z q⟩
      · exact R.new _ _ q
    len := by rw [List.length_set]; exact R.len
    sl := fun j sw q => by
      rcases slot_set q with ⟨rfl, q2⟩ | ⟨hne, q⟩
      · cases q2
        exact ⟨v, hv, rep _ up fun b hb => if_pos hb⟩
      · obtain ⟨w, h1, h2⟩ := R.sl j sw q
        exact ⟨w, h1, h2.agree up fun b hb => ⟨rfl, if_neg fun z => R.ap i j sv sw v w b (Ne.symm hne) h q hv h1 z hb⟩⟩
    ap := fun j k sw su w u b hjk h1 h2 h3 h4 h5 h6 => by
      rcases slot_set h1 with ⟨rfl, e1⟩ | ⟨n1, e1⟩
      · cases e1; exact h5.elim
      · rcases slot_set h2 with ⟨rfl, e2⟩ | ⟨n2, e2⟩
        · cases e2; exact h6.elim
        · exact R.ap j k sw su w u b hjk e1 e2 h3 h4 h5 h6 }
theorem Rel.frz1 {G : Gx} {F : Fm} {e : Env} {σ : L2.St} {H S : Hp} (R : Rel G F e σ H S) {i : Nat} {ds : List Dv} (h : slot e i = some (.l1 ds)) : ∃ S', Sub S S' ∧ Rel G F (e.set i (some (.sh (.lst ds)))) σ H S' := by
  obtain ⟨v, hv, a, xs, rfl, ha, hz, hr, hn, hf⟩ := R.sl i _ h
  exact R.freeze h hv (fun b hb => by obtain rfl : b = a := hb; exact hf) fun S' up k => .lst (.inl (.inl (by rw [k a rfl]; exact ha))) hz (hr.mono up)
theorem inn_rep {G : Gx} {H0 H S S' : Hp} (up : Sub S S') : ∀ {bs : List Addr} {dss : List (List Dv)}, InnL G H0 H S bs dss → (∀ b ∈ bs, S' b = H b) → RepL G S' (bs.map V.ref) (dss.map Dv.lst)
  | [], [], _, _ => .nil
  | b :: bs, ds :: dss, ⟨⟨xs, h, z, q, n, f⟩, t⟩, k => .cons (.lst (.inl (.inl (by rw [k b List.mem_cons_self]; exact h))) z (q.mono up)) (inn_rep up t fun c hc => k c (List.mem_cons_of_mem _ hc))
  | [], _ :: _, h, _ => h.elim
  | _ :: _, [], h, _ => h.elim
theorem Rel.frz2 {G : Gx} {F : Fm} {e : Env} {σ : L2.St} {H S : Hp} (R : Rel G F e σ H S) {i : Nat} {dss : List (List Dv)} (h : slot e i = some (.l2 dss)) : ∃ S', Sub S S' ∧ Rel G F (e.set i (some (.sh (.lst (dss.map Dv.lst))))) σ H S' := by
  obtain ⟨v, hv, ow⟩ := R.sl i _ h
  have ow' := ow
  obtain ⟨a, bs, rfl, ha, hz, hr, nd, na, hn, hf⟩ := ow
  refine R.freeze h hv (fun b hb => ?_) fun S' up k => .lst (.inl (.inl (by rw [k a (.inl rfl)]; exact ha))) (by rw [List.length_map]; exact hz) (inn_rep up hr fun b hb => k b (.inr ⟨bs, ha, hb⟩))
  rcases hb with rfl | ⟨cs, e1, hc⟩
  · exact hf
  · rw [ha] at e1
    injection e1 with e1
    injection e1 with e1
    rw [← ref_inj e1] at hc
    exact (hr.at hc).2.2
theorem Rel.frz {G : Gx} {F : Fm} {σ : L2.St} {H : Hp} : ∀ (is : List Nat) {e : Env} {S : Hp}, Rel G F e σ H S → ∃ S', Sub S S' ∧ Rel G F (Dg.frz is e) σ H S'
  | [], e, S, R => ⟨S, .refl S, R⟩
  | i :: is, e, S, R => by
    unfold Dg.frz
    split
    · rename_i ds h
      obtain ⟨S1, s1, R1⟩ := R.frz1 h
      obtain ⟨S2, s2, R2⟩ := Rel.frz is R1
      exact ⟨S2, s1.trans s2, R2⟩
    · rename_i dss h
      obtain ⟨S1, s1, R1⟩ := R.frz2 h
      obtain ⟨S2, s2, R2⟩ := Rel.frz is R1
      exact ⟨S2, s1.trans s2, R2⟩
    · exact Rel.frz is R
/-- a list of its own is written -/
theorem Rel.write {G : Gx} {F : Fm} {e : Env} {σ : L2.St} {H S : Hp} (R : Rel G F e σ H S) {i : Nat} {ds ds' : List Dv} {a : Addr} {ys : List V} (h : slot e i = some (.l1 ds)) (hv : σ[i]? = some (some (.ref a))) (hz : ys.length ≤ LIM) (hr : RepL G S ys ds') :
    Rel G F (e.set i (some (.l1 ds'))) σ (upd H a (.lst ys)) S := by
  obtain ⟨v, hv2, a2, xs, rfl, ha, _, _, hn, hf⟩ := R.sl i _ h
  rw [hv] at hv2
  cases hv2
  exact R.change h hv (fun b hb => upd_ne hb) (fun b hb => by obtain rfl : b = a := hb; rw [upd_same]; simp) ⟨a, ys, rfl, upd_same, hz, hr, hn, hf⟩ fun b hb => hb
/-- a dict of its own is written -/
theorem Rel.writeD {G : Gx} {F : Fm} {e : Env} {σ : L2.St} {H S : Hp} (R : Rel G F e σ H S) {i : Nat} {ds ds' : List (Dv × Dv)} {a : Addr} {ys : List (Key × V)} (h : slot e i = some (.d1 ds)) (hv : σ[i]? = some (some (.ref a))) (hr : RepK G S ys ds') :
    Rel G F (e.set i (some (.d1 ds'))) σ (upd H a (.dK ys)) S := by
  obtain ⟨v, hv2, a2, xs, rfl, ha, _, hn, hf⟩ := R.sl i _ h
  rw [hv] at hv2
  cases hv2
  exact R.change h hv (fun b hb => upd_ne hb) (fun b hb => by obtain rfl : b = a := hb; rw [upd_same]; simp) ⟨a, ys, rfl, upd_same, hr, hn, hf⟩ fun b hb => hb
theorem InnL.put {G : Gx} {H0 H S : Hp} {ys : List V} {ds : List Dv} : ∀ {bs : List Addr} {dss : List (List Dv)} {p : Nat} {b : Addr}, InnL G H0 H S bs dss → bs.Nodup → bs[p]? = some b → ys.length ≤ LIM → RepL G S ys ds → InnL G H0 (upd H b (.lst ys)) S bs (dss.set p ds)
  | c :: bs, es :: dss, 0, b, ⟨⟨xs, h, z, q, n, f⟩, t⟩, nd, hp, hz, hr => by
    rw [List.getElem?_cons_zero] at hp
    cases hp
    refine ⟨⟨ys, upd_same, hz, hr, n, f⟩, t.agree (.refl S) fun k hk => ⟨upd_ne fun e => ?_, rfl⟩⟩
    subst e
    exact (List.nodup_cons.mp nd).1 hk
  | c :: bs, es :: dss, p + 1, b, ⟨⟨xs, h, z, q, n, f⟩, t⟩, nd, hp, hz, hr => by
    rw [List.getElem?_cons_succ] at hp
    have hb : b ∈ bs := List.mem_of_getElem? hp
    have ne : c ≠ b := fun e => by
      subst e
      exact (List.nodup_cons.mp nd).1 hb
    exact ⟨⟨xs, by rw [upd_ne ne]; exact h, z, q, n, f⟩, InnL.put t (List.nodup_cons.mp nd).2 hp hz hr⟩
  | [], _ :: _, _, _, h, _, _, _, _ => h.elim
  | _ :: _, [], _, _, h, _, _, _, _ => h.elim
  | [], [], p, b, _, _, hp, _, _ => by cases hp
/-- a list of a list of lists is written -/
theorem Rel.write2 {G : Gx} {F : Fm} {e : Env} {σ : L2.St} {H S : Hp} (R : Rel G F e σ H S) {i p : Nat} {dss : List (List Dv)} {ds : List Dv} {a b : Addr} {bs : List Addr} {ys : List V} (h : slot e i = some (.l2 dss)) (hv : σ[i]? = some (some (.ref a))) (ha : H a = some (.lst (bs.map V.ref))) (hb : bs[p]? = some b) (hz : ys.length ≤ LIM) (hr : RepL G S ys ds) :
    Rel G F (e.set i (some (.l2 (dss.set p ds)))) σ (upd H b (.lst ys)) S := by
  obtain ⟨v, hv2, a2, cs, rfl, ha2, hl, hi, nd, na, hn, hf⟩ := R.sl i _ h
  rw [hv] at hv2
  cases hv2
  rw [ha] at ha2
  injection ha2 with ha2
  injection ha2 with ha2
  have e0 := ref_inj ha2
  subst e0
  have hbm : b ∈ bs := List.mem_of_getElem? hb
  have ab : a ≠ b := fun e => na (e ▸ hbm)
  refine R.change h hv (fun c hc => upd_ne fun e => hc (e ▸ .inr ⟨bs, ha, hbm⟩)) (fun c hc => ?_) ⟨a, bs, rfl, by rw [upd_ne ab]; exact ha, hl, hi.put nd hb hz hr, nd, na, hn, hf⟩ fun c hc => ?_
  · by_cases e : c = b
    · subst e; rw [upd_same]; simp
    · rw [upd_ne e]
      rcases hc with rfl | ⟨cs, e1, hc⟩
      · rw [ha]; simp
      · rw [ha] at e1
        injection e1 with e1
        injection e1 with e1
        rw [← ref_inj e1] at hc
        obtain ⟨⟨xs, h1⟩, _⟩ := hi.at hc
        rw [h1]; simp
  · rcases hc with rfl | ⟨cs, e1, hc⟩
    · exact .inl rfl
    · rw [upd_ne ab] at e1
      exact .inr ⟨cs, e1, hc⟩
/-- a new dict of its own is stored -/
theorem Rel.putK {G : Gx} {F : Fm} {e : Env} {σ : L2.St} {H S H1 S1 : Hp} (R : Rel G F e σ H S) (g : Grow H S H1 S1) {i : Nat} {ds : List (Dv × Dv)} {v : V} (r : RepV G H H1 S1 v (.d1 ds)) : Rel G F (e.set i (some (.d1 ds))) (σ.set i (some v)) H1 S1 := by
  obtain ⟨a, xs, rfl, ha, hr, hn, h0⟩ := r
  refine (R.mono g).put (sv := .d1 ds) ⟨a, xs, rfl, ha, hr, hn, ?_⟩ fun b hb j sw w hj h1 h2 h3 => ?_
  · cases q : F.H0 a with
    | none => rfl
    | some o => exact absurd h0 (R.keep a (by rw [q]; simp))
  · obtain rfl : b = a := hb
    obtain ⟨w', k1, k2⟩ := R.sl j sw h1
    rw [h2] at k1
    cases k1
    obtain ⟨⟨o, q⟩, _⟩ := own_there k2 (ownA_sub g.h k2 h3)
    rw [h0] at q
    cases q
/-- a new list of its own is stored -/
theorem Rel.putL {G : Gx} {F : Fm} {e : Env} {σ : L2.St} {H S H1 S1 : Hp} (R : Rel G F e σ H S) (g : Grow H S H1 S1) {i : Nat} {ds : List Dv} {v : V} (r : RepV G H H1 S1 v (.l1 ds)) : Rel G F (e.set i (some (.l1 ds))) (σ.set i (some v)) H1 S1 := by
  obtain ⟨a, xs, rfl, ha, hz, hr, hn, h0⟩ := r
  refine (R.mono g).put (sv := .l1 ds) ⟨a, xs, rfl, ha, hz, hr, hn, ?_⟩ fun b hb j sw w hj h1 h2 h3 => ?_
  · cases q : F.H0 a with
    | none => rfl
    | some o => exact absurd h0 (R.keep a (by rw [q]; simp))
  · obtain rfl : b = a := hb
    obtain ⟨w', k1, k2⟩ := R.sl j sw h1
    rw [h2] at k1
    cases k1
    obtain ⟨⟨o, q⟩, _⟩ := own_there k2 (ownA_sub g.h k2 h3)
    rw [h0] at q
    cases q
/-- what is bound -/
theorem bind_ok {G : Gx} {F : Fm} {e e1 : Env} {σ : L2.St} {H S H1 S1 : Hp} (R : Rel G F e σ H S) (g : Grow H S H1 S1) {tg : Tg} {sv : Sv} {v : V} {P : L2.St → Hp → Prop} (r : RepV G H H1 S1 v sv) (h : bindS tg sv e = some e1) (q : ∀ σ2 S2, Rel G F e1 σ2 H1 S2 → P σ2 H1) : gT G.K tg v σ H1 P := by
  have sharing : ∀ {d : Dv}, sv.share = some d → bindD tg d e = some e1 → gT G.K tg v σ H1 P := fun {d} h1 h2 => by
    obtain ⟨S2, g2, _, rr⟩ := RepV.share2 g r h1
    cases tg with
    | nm i k => exact tg_ok (own := [i]) (σ0 := σ) (R.mono g2) .refl (by unfold tgIn; simp) rr h2 fun σ2 R2 _ => q σ2 S2 R2
    | tp is => exact tg_ok (own := is) (σ0 := σ) (R.mono g2) .refl (by unfold tgIn; simp) rr h2 fun σ2 R2 _ => q σ2 S2 R2
  have other : ∀ {tg' : Tg}, (match sv.share with
    | some d => bindD tg' d e
    | none => none) = some e1 → ∃ d, sv.share = some d ∧ bindD tg' d e = some e1 := fun {tg'} h => by
    cases q : sv.share with
    | none => rw [q] at h; cases h
    | some d => rw [q] at h; exact ⟨d, rfl, h⟩
  unfold bindS at h
  split at h
  · split at h
    · cases h
    · cases h
      cases sv with
      | sh d => exact q _ _ ((R.mono g).putS r)
      | l1 ds => exact q _ _ (R.putL g r)
      | d1 kvs => exact q _ _ (R.putK g r)
      | bw d => rename_i hne; exact absurd rfl (hne d)
      | _ => exact r.elim
  · obtain ⟨d, k1, k2⟩ := other h
    exact sharing k1 k2
/-! ### readings -/
def OutR (L : Lk) (F : Fm) (W : WX) (D : Ends) (r : Rt) : Prop := match r with
  | .nx e => ∀ σ' H' S', Rel L.G F e σ' H' S' → D.nx σ' H'
  | .bk e => ∀ σ' H' S', Rel L.G F e σ' H' S' → D.bk σ' H'
  | .ct e => ∀ σ' H' S', Rel L.G F e σ' H' S' → D.ct σ' H'
  | .rt sv e => ∀ v σ' H' S', Rel L.G F e σ' H' S' → Own L.G F H' S' v sv → D.rt v H'
  | .ex C t e => ∀ σ' H' S', Rel L.G F e σ' H' S' → ExW L.G W σ' H' C t
  | .no => False
def tS (L : Lk) (lv : Nat) (m : Stm) (W : WX) : TS := fun D σ H => ∃ F e S, Rel L.G F e σ H S ∧ OutR L F W D (execS (clI L.pg lv) m e)
def tBk (L : Lk) (lv : Nat) (m : Blk) (W : WX) : TS := fun D σ H => ∃ F e S, Rel L.G F e σ H S ∧ OutR L F W D (execB (clI L.pg lv) m e)
theorem PS.imp {X : Cx} {e : Stmt} {t t' : TS} (h : PS X e t') (i : ∀ D σ H, t D σ H → t' D σ H) : PS X e t := ⟨fun pins s σ H D I q => h.run pins s σ H D I (i D σ H q)⟩
theorem PSs.imp {X : Cx} {e : List Stmt} {t t' : TS} (h : PSs X e t') (i : ∀ D σ H, t D σ H → t' D σ H) : PSs X e t := ⟨fun pins s σ H D I q => h.run pins s σ H D I (i D σ H q)⟩
/-- an expression in a statement -/
theorem in_tE {m : Ex} {F : Fm} {e : Env} {σ : L2.St} {H S : Hp} {D : Ends} {k : Sv → Rt} {Q : VK} (R : Rel L.G F e σ H S) (h : OutR L F W D ((evalE (clI L.pg lv) m e).inE e k))
    (hok : ∀ sv v H1 S1, Grow H S H1 S1 → Rel L.G F e σ H1 S1 → RepV L.G H H1 S1 v sv → OutR L F W D (k sv) → Q v H1) : tE L lv m W σ H Q := by
  refine ⟨F, e, S, R, ?_⟩
  cases q : evalE (clI L.pg lv) m e with
  | ok sv =>
    rw [q] at h
    exact fun v H1 S1 g r => hok sv v H1 S1 g (R.mono g) r h
  | ex C t =>
    rw [q] at h
    exact fun H1 S1 g => h σ H1 S1 (R.mono g)
  | no =>
    rw [q] at h
    exact h.elim
theorem in_tA {m : Exs} {F : Fm} {e : Env} {σ : L2.St} {H S : Hp} {D : Ends} {k : List Dv → Rt} {Q : List V → Hp → Prop} (R : Rel L.G F e σ H S) (h : OutR L F W D ((evalEs (clI L.pg lv) m e).inE e k))
    (hok : ∀ ds vs H1 S1, Grow H S H1 S1 → Rel L.G F e σ H1 S1 → RepL L.G S1 vs ds → OutR L F W D (k ds) → Q vs H1) : tA L lv m W σ H Q := by
  refine ⟨F, e, S, R, ?_⟩
  cases q : evalEs (clI L.pg lv) m e with
  | ok sv =>
    rw [q] at h
    exact fun v H1 S1 g r => hok sv v H1 S1 g (R.mono g) r h
  | ex C t =>
    rw [q] at h
    exact fun H1 S1 g => h σ H1 S1 (R.mono g)
  | no =>
    rw [q] at h
    exact h.elim
theorem in_tT {m : Ex} {F : Fm} {e : Env} {σ : L2.St} {H S : Hp} {D : Ends} {k : Bool → Rt} {Q : Bool → Hp → Prop} (R : Rel L.G F e σ H S) (h : OutR L F W D ((evalT (clI L.pg lv) m e).inE e k))
    (hok : ∀ b H1 S1, Grow H S H1 S1 → Rel L.G F e σ H1 S1 → OutR L F W D (k b) → Q b H1) : tT L lv m W σ H Q := by
  refine ⟨F, e, S, R, ?_⟩
  unfold evalT at h
  cases q : evalE (clI L.pg lv) m e with
  | ok sv =>
    rw [q] at h
    have h : OutR L F W D (Rs.inE (match sv.toD with
      | .bl k => .ok k
      | _ => .no) e k) := h
    cases hs : sv.toD with
    | bl b =>
      rw [hs] at h
      exact ⟨b, hs, fun H1 S1 g => hok b H1 S1 g (R.mono g) h⟩
    | _ => rw [hs] at h; exact h.elim
  | ex C t =>
    rw [q] at h
    exact fun H1 S1 g => h σ H1 S1 (R.mono g)
  | no =>
    rw [q] at h
    exact h.elim
theorem in_tI {b : Bool} {m : Src} {F : Fm} {e : Env} {σ : L2.St} {H S : Hp} {D : Ends} {k : List Dv → Rt} {Q : It → Hp → Prop} (R : Rel L.G F e σ H S) (h : OutR L F W D ((evalS (clI L.pg lv) b m e).inE e k))
    (hok : ∀ ds J H1 S1, Grow H S H1 S1 → Rel L.G F e σ H1 S1 → Walks L J (if b then S1 else H1) S1 ds → ds.length ≤ LIM → OutR L F W D (k ds) → Q J H1) : tI L lv b m W σ H Q := by
  refine ⟨F, e, S, R, ?_⟩
  cases q : evalS (clI L.pg lv) b m e with
  | ok ds =>
    rw [q] at h
    exact fun J H1 S1 g w l => hok ds J H1 S1 g (R.mono g) w l h
  | ex C t =>
    rw [q] at h
    exact fun H1 S1 g => h σ H1 S1 (R.mono g)
  | no =>
    rw [q] at h
    exact h.elim
end
end Dg

/-! The evaluator is sound: the forms of statements. -/
namespace Dg
open PySem PySem.Spec L2
structure YOk (L : Lk) (lv : Nat) (se : SE) (X : Cx) : Prop where
  x : XOk L lv se X
  hs : X.stack = X.env :: X.outer
  hf : X.env.frame = some X.env.locals
  fn : ∀ y, X.fn y = true
  kind : X.env.scope.kind = .function
  ps : PassesOwn (model X.prog X.w) X.A X.env X.xe
  ex : X.ex = []
section
variable {L : Lk} {lv : Nat} {se : SE} {X : Cx} {W : WX}
theorem YOk.tr (yo : YOk L lv se X) {pn : List (Addr × Obj)} {xe : Value → Shared → Prop} (h : PassesOwn (model X.prog X.w) X.A X.env xe) : YOk L lv se (X.tr pn xe) :=
  ⟨⟨yo.x.prog, yo.x.w, yo.x.K, yo.x.mg, yo.x.base, yo.x.N, yo.x.sc, yo.x.nd, yo.x.calm, yo.x.room, yo.x.gl, yo.x.mt, yo.x.fl⟩, yo.hs, yo.hf, yo.fn, yo.kind, h, yo.ex⟩
theorem YOk.stores (yo : YOk L lv se X) : Stores X se := fun x i h => by
  obtain ⟨a, b⟩ := sto_of yo.x.N yo.x.sc h
  exact ⟨a, b, .inl (yo.fn x)⟩
/-! ### assignments -/
theorem asg_read {fz : List Nat} {tg : Tg} {m : Ex} {D : Ends} {σ : L2.St} {H : Hp} (h : tS L lv (.asg fz tg m) W D σ H) : tAsg (tE L lv m W) (gT L.G.K tg) D σ H := by
  obtain ⟨F, e, S, R, o⟩ := h
  obtain ⟨S', _, R'⟩ := R.frz fz
  rw [execS] at o
  refine in_tE R' o fun sv v H1 S1 g R1 r o1 => ?_
  cases hb : bindS tg sv (frz fz e) with
  | none => rw [hb] at o1; exact o1.elim
  | some e1 =>
    rw [hb] at o1
    exact bind_ok R' g r hb fun σ2 S2 R2 => o1 σ2 H1 S2 R2
theorem noswap {n : Nat} {se : SE} {b : Expr} {m : Ex} (h : cE n se b = some m) (hl : isLc b = false) (t : Option Expr) (l : Nat) (env : PySem.Env) : swapsWith b t l env = pure false := by
  cases n with
  | zero => unfold cE at h; cases h
  | succ n => cases b <;> first | rfl | (unfold cE at h; cases h; done) | (cases hl; done)
theorem s_set (yo : YOk L lv se X) {n : Nat} {fz : List Nat} {k : Bool} {x : Str} {i : Nat} {v : Expr} {m : Ex} {px pos : Pos} (hi : stoOf se x = some i) (hv : cE n se v = some m) (hl : isLc v = false) (ie : PE X v (tE L lv m W)) : PS X (.Assign [.Name x px] v pos) (tS L lv (.asg fz (.nm i k) m) W) := by
  obtain ⟨a, b, c⟩ := yo.stores x i hi
  exact PS.imp (ps_set yo.x.nd a b ie (noswap hv hl _ _ _) c) fun D σ H h => asg_read h
theorem comp_parts {n : Nat} {elt : Expr} {gs : List Comprehension} {scope : Scope} {pos : Pos} {m : Ex} (h : cE n se (.ListComp elt gs scope pos) = some m) : ∃ k tg iter ifs own s t c x, n = k + 1 ∧ gs = [⟨tg, iter, ifs, 0⟩] ∧ blkC se.N se.sc scope own = true ∧ cSrc k se (isTup tg) iter = some s ∧
    cTg { se with sc := scope } false tg = some t ∧ cIf k (se.inC scope) ifs = some c ∧ cE k (se.inC scope) elt = some x ∧ tgIn (own.map (·.2)) t = true ∧ m = .comp (own.map (·.2)) t s c x := by
  cases n with
  | zero => unfold cE at h; cases h
  | succ n =>
    unfold cE at h
    split at h <;> try cases ‹Expr.ListComp _ _ _ _ = _›
    · split at h
      · rename_i own hown
        split at h
        · rename_i hb
          split at h
          · rename_i s t c x hs ht hc hx
            split at h
            · rename_i hti
              cases h
              exact ⟨n, _, _, _, own, s, t, c, x, rfl, rfl, hb, hs, ht, hc, hx, (and_t hti).1, rfl⟩
            · cases h
          · cases h
        · cases h
      · cases h
    · cases h
theorem s_setC (co : CallsOk L lv) (yo : YOk L lv se X) (tk : Takes X W) {n : Nat} {fz : List Nat} {k : Bool} {x : Str} {i : Nat} {elt : Expr} {gs : List Comprehension} {scope : Scope} {m : Ex} {px cp pos : Pos} (hi : stoOf se x = some i) (hv : cE n se (.ListComp elt gs scope cp) = some m) (hl : lcOk se x px (.ListComp elt gs scope cp) = true) :
    PS X (.Assign [.Name x px] (.ListComp elt gs scope cp) pos) (tS L lv (.asg fz (.nm i k) m) W) := by
  obtain ⟨j, tg, iter, ifs, own, s, t, c, y, rfl, rfl, hb, hs, ht, hc, hx, ti, rfl⟩ := comp_parts hv
  have I := snd_all co j
  have xo := yo.x
  obtain ⟨a, b, _⟩ := yo.stores x i hi
  unfold lcOk at hl
  obtain ⟨h1, h2⟩ := and_t hl
  obtain ⟨h3, h4⟩ := and_t h1
  have hyl : X.env.scope.names.lookup x = some .local := by
    rw [xo.sc, ← lkS_eq]
    split at h3
    · assumption
    · cases h3
  have ha : (scope.names.any fun (n, k) => n == x && (k == .local || k == .cell)) = false := by
    have e : (fun (p : Str × NameKind) => match p with
      | (n, k) => n == x && (k == NameKind.local || k == NameKind.cell)) = fun (p : Str × NameKind) => match p with
      | (n, k) => sEq n x && (k == NameKind.local || k == NameKind.cell) := by
      funext ⟨n, k⟩
      show (n == x && _) = (sEq n x && _)
      rw [sEq_beq]
    show scope.names.any (fun (p : Str × NameKind) => match p with
      | (n, k) => n == x && (k == .local || k == .cell)) = false
    rw [e]
    simpa using h2
  obtain ⟨i1, i2⟩ := I.src tg false rfl xo tk hs
  refine PS.imp (ps_setLc xo.calm xo.nd a hyl (sw_true yo.kind hyl (by rw [beq_iff_eq]; exact Nat.eq_of_beq_eq_true h4) ha) i1 (own_eq hb xo) (fun s H C cl fp => ?_) (fun s H C cl fp => I.ifs (xo_blk xo s H scope C cl fp) takes_no hc) (fun s H C cl fp => (I.e (xo_blk xo s H scope C cl fp) takes_no hx).1) (i2 X.env)) fun D σ H h => lc_read (W := W) ti (asg_read h)
  have := pg_of (X := X.blk s H scope (compEnvC scope cl C X.env) fp) xo.calm xo.nd (stores_blk xo s H scope C cl fp) ht
  rw [show (X.blk s H scope (compEnvC scope cl C X.env) fp).K = L.G.K from xo.K] at this
  exact this
theorem noswapT {n : Nat} {se : SE} {b : Expr} {m : Ex} (h : cE n se b = some m) (ts : List Expr) (k : Nat) (p : Pos) (l : Nat) (env : PySem.Env) : swapsWithSole [.Tuple ts k p] b l env = pure false := by
  cases n with
  | zero => unfold cE at h; cases h
  | succ n => cases b <;> first | rfl | (unfold cE at h; cases h)
theorem s_tup (yo : YOk L lv se X) {n : Nat} {fz : List Nat} {ts : List Expr} {kk : Nat} {p pos : Pos} {t : Tg} {v : Expr} {m : Ex} (ht : cTg se false (.Tuple ts kk p) = some t) (hv : cE n se v = some m) (hnt : ∀ vs k q, v ≠ .Tuple vs k q) (ie : PE X v (tE L lv m W)) :
    PS X (.Assign [.Tuple ts kk p] v pos) (tS L lv (.asg fz t m) W) := by
  have g := pg_of (X := X) yo.x.calm yo.x.nd yo.stores ht
  rw [yo.x.K] at g
  refine PS.imp (ps_asg ie g (noswapT hv _ _ _ _ _) ?_ rfl) fun D σ H h => asg_read h
  cases v <;> first | rfl | exact absurd rfl (hnt _ _ _)
theorem par_sw {x y : Str} {px py pt pt2 : Pos} {kt k2 : Nat} {a b : Expr} {n : Nat} {ma mb : Ex} (yo : YOk L lv se X) (h : parOk se [.Name x px, .Name y py] [a, b] = true) (ha : cE n se a = some ma) (hb : cE n se b = some mb) :
    swappedStores [.Tuple [.Name x px, .Name y py] kt pt] (.Tuple [a, b] k2 pt2) X.env = pure (some [x, y]) ∧ X.env.scope.names.lookup x = some .local ∧ X.env.scope.names.lookup y = some .local ∧ x ≠ y := by
  unfold parOk at h
  obtain ⟨h, h6⟩ := and_t h
  obtain ⟨h, h5⟩ := and_t h
  obtain ⟨h, h4⟩ := and_t h
  obtain ⟨h, h3⟩ := and_t h
  obtain ⟨h1, h2⟩ := and_t h
  have e1 : X.env.scope.names.lookup x = some .local := by
    rw [yo.x.sc, ← lkS_eq]
    split at h1
    · assumption
    · cases h1
  have e2 : X.env.scope.names.lookup y = some .local := by
    rw [yo.x.sc, ← lkS_eq]
    split at h2
    · assumption
    · cases h2
  have e3 : x ≠ y := sNe' (by simpa using h3)
  have e4 : px.line = py.line := Nat.eq_of_beq_eq_true h4
  have k1 : X.env.kindOf x = some .local := e1
  have k2' : X.env.kindOf y = some .local := e2
  have kb : X.env.blockKind = .function := by unfold PySem.Env.blockKind; rw [yo.kind]; rfl
  have ns : ∀ {c : Expr} {mc : Ex}, cE n se c = some mc → (match c with
    | .Starred .. => true
    | _ => false) = false := fun {c mc} hc => by
    cases n with
    | zero => unfold cE at hc; cases hc
    | succ n => cases c <;> first | rfl | (unfold cE at hc; cases hc)
  refine ⟨?_, e1, e2, e3⟩
  have f5 : ([a, b].all (foldedForSure 8)) = false := by revert h5; cases ([a, b].all (foldedForSure 8)) <;> simp
  have f6 : ([a, b].all (constantsAlone 8)) = false := by revert h6; cases ([a, b].all (constantsAlone 8)) <;> simp
  have na := ns ha
  have nb := ns hb
  have ed : [x, y].eraseDups = [x, y] := by
    have : (y == x) = false := by
      rw [beq_eq_false_iff_ne]
      exact fun e => e3 e.symm
    simp [List.eraseDups_cons, List.filter, this]
  unfold swappedStores
  simp only [List.length_cons, List.length_nil, kb, List.head?_cons, Option.map_some, Expr.pos, Option.getD_some, List.filterMap_cons, k1, k2', e4, List.filterMap_nil, ed, f5, f6, List.any_cons, List.any_nil, na, nb]
  simp [ed, f5, f6]
  intro z
  rcases z with z | z
  · exact absurd (na.symm.trans z) Bool.false_ne_true
  · exact absurd (nb.symm.trans z) Bool.false_ne_true
theorem s_par (yo : YOk L lv se X) {n : Nat} {fz : List Nat} {x y : Str} {px py pt pt2 pos : Pos} {kt k2 i j : Nat} {a b : Expr} {ma mb : Ex} (h : parOk se [.Name x px, .Name y py] [a, b] = true) (hi : plnOf se x = some i) (hj : plnOf se y = some j) (ha : cE n se a = some ma) (hb : cE n se b = some mb) (ia : PE X a (tE L lv ma W)) (ib : PE X b (tE L lv mb W)) :
    PS X (.Assign [.Tuple [.Name x px, .Name y py] kt pt] (.Tuple [a, b] k2 pt2) pos) (tS L lv (.par fz i j ma mb) W) := by
  obtain ⟨sw, e1, e2, e3⟩ := par_sw (kt := kt) (pt := pt) (k2 := k2) (pt2 := pt2) yo h ha hb
  have ix : ∀ {z : Str} {l : Nat}, plnOf se z = some l → X.N[l]? = some z := fun {z l} q => by
    unfold plnOf at q
    rw [yo.x.N]
    split at q
    · exact ixOf_get q
    · cases q
  have hij : i ≠ j := fun e => by
    have q1 := ix hi
    have q2 := ix hj
    rw [e, q2] at q1
    injection q1 with q1
    exact e3 q1.symm
  refine PS.imp (ps_par yo.x.calm yo.x.nd (ix hi) (ix hj) hij e1 e2 (a_cons ha ia (a_cons hb ib a_nil)) sw) fun D σ H ⟨F, e, S, R, o⟩ => ?_
  obtain ⟨S', _, R'⟩ := R.frz fz
  rw [execS] at o
  refine in_tA R' o fun ds vs H1 S1 g R1 r o1 => ?_
  match ds, vs, r with
  | [d1, d2], [v1, v2], .cons r1 (.cons r2 .nil) => exact ⟨v1, v2, rfl, o1 _ H1 S1 ((R1.putS r1).putS r2)⟩
  | [], _, _ => exact o1.elim
  | [_], _, _ => exact o1.elim
  | _ :: _ :: _ :: _, _, _ => exact o1.elim
theorem s_aug (yo : YOk L lv se X) {fz : List Nat} {x : Str} {i : Nat} {v : Expr} {m : Ex} {px pos : Pos} (hi : stoOf se x = some i) (ie : PE X v (tE L lv m W)) : PS X (.AugAssign (.Name x px) .Add v pos) (tS L lv (.aug fz i m) W) := by
  obtain ⟨a, b, c⟩ := yo.stores x i hi
  refine PS.imp (ps_aug yo.x.nd a b ie ip_add c) fun D σ H ⟨F, e, S, R, o⟩ => ?_
  obtain ⟨S', _, R'⟩ := R.frz fz
  rw [execS] at o
  split at o
  · rename_i z hz
    obtain ⟨w, e1, ow⟩ := R'.sl i _ hz
    cases ow
    refine ⟨.int z, e1, in_tE R' o fun sv v H1 S1 g R1 r o1 => ?_⟩
    split at o1
    · rename_i y hy
      exact ⟨z, y, rfl, int_of R1.sub r hy, o1 _ H1 S1 (R1.putS (.int _))⟩
    · exact o1.elim
  · exact o.elim
/-! ### methods of lists -/
theorem pln_of (yo : YOk L lv se X) {z : Str} {l : Nat} (q : plnOf se z = some l) : X.N[l]? = some z ∧ Vis X.env.scope z := by
  unfold plnOf at q
  split at q
  · rename_i e
    exact ⟨by rw [yo.x.N]; exact ixOf_get q, .inl (by rw [yo.x.sc, ← lkS_eq]; exact e)⟩
  · cases q
theorem few {n : Nat} {e : Expr} {es : List Expr} {ms : Exs} (hes : cEs n se (e :: es) = some ms) (hn : Nat.blt (e :: es).length 30 = true) (env : PySem.Env) (pos : Pos) : ((backTo pos (starEach (e :: es) env)).all (fun x => !x.1) && (backToKw pos (keywordEach [] env)).all (fun x => x.1.isSome)
      && decide ((e :: es).length + ([] : List Keyword).length + (if ([] : List Keyword).isEmpty then 0 else 1) < 30)) = true := by
  have h1 := all_not (nostar (n := n) (env := env) (pos := pos) hes)
  have h2 : (e :: es).length < 30 := by
    have := Nat.ble_eq.mp hn
    omega
  rw [h1]
  have h3 : backToKw pos (keywordEach [] env) = [] := rfl
  rw [h3]
  simpa using h2
theorem s_app (yo : YOk L lv se X) {n i : Nat} {fz : List Nat} {x : Str} {a : Expr} {ma : Ex} {px pm pc pos : Pos} (hi : locOf se x = some i) (h1 : sEq x "__debug__" = false) (h2 : sEq x "__classdict__" = false) (hl : (pm.endLine == pc.line) = true) (ha : cE n se a = some ma) (ia : PE X a (tE L lv ma W)) :
    PS X (.Expr (.Call (.Attribute (.Name x px) "append" pm) [a] [] pc) pos) (tS L lv (.mut fz .append i (.cons ma .nil)) W) := by
  obtain ⟨p1, p2⟩ := loc_of yo.x hi
  have hes : cEs (n + 1) se [a] = some (.cons ma .nil) := by
    unfold cEs
    rw [ha]
    cases n <;> rfl
  obtain ⟨s1, s2⟩ := args_star hes X.env pc
  refine PS.imp (ps_expr (pe_bm PySem.F.plainAttrs_list PySem.F.slot_list_append PySem.F.type_list_append mt_append (pe_var p1 p2 (sNe h1) (sNe h2)) (a_cons ha ia a_nil) rfl (few hes rfl _ _) hl s1 s2) rfl) fun D σ H ⟨F, e, S, R, o⟩ => ?_
  obtain ⟨S', _, R'⟩ := R.frz fz
  rw [execS] at o
  split at o
  · rename_i ds hz
    obtain ⟨w, e1, b, xs, rfl, hb, hz2, hr, hn, hf⟩ := R'.sl i _ hz
    refine ⟨_, e1, .inl ⟨rfl, xs, .inl (.inl hb)⟩, in_tA R' o fun es vs H1 S1 g R1 r o1 => ?_⟩
    match es, vs, r with
    | [d], [v], .cons r1 .nil =>
      have o1 : OutR L F W D (match mutate .append ds [d] with
        | .ok ys => .nx ((frz fz e).set i (some (.l1 ys)))
        | _ => .no) := o1
      have key : mutate .append ds [d] = if ds.length < LIM then .ok (ds ++ [d]) else .no := rfl
      rw [key] at o1
      by_cases hlt : ds.length < LIM
      · rw [if_pos hlt] at o1
        obtain ⟨w2, e2, b2, xs2, e3, hb2, hz3, hr2, _⟩ := R1.sl i _ hz
        rw [e1] at e2
        cases e2
        cases e3
        have e4 := hr2.len
        exact ⟨b, xs2, v, rfl, rfl, hb2, by rw [← lim]; omega, o1 σ _ S1 (R1.write hz e1 (by rw [List.length_append]; simp; omega) (hr2.append (.cons r1 .nil)))⟩
      · rw [if_neg hlt] at o1
        exact o1.elim
    | [], _, _ => exact o1.elim
    | _ :: _ :: _, _, _ => exact o1.elim
  · exact o.elim
end
end Dg

/-! The evaluator is sound: loops, returns, exceptions. -/
namespace Dg
open PySem PySem.Spec L2
section
variable {L : Lk} {lv : Nat} {se : SE} {X : Cx} {W : WX}
theorem s_clr (yo : YOk L lv se X) {i : Nat} {fz : List Nat} {x : Str} {px pm pc pos : Pos} (hi : locOf se x = some i) (h1 : sEq x "__debug__" = false) (h2 : sEq x "__classdict__" = false) (hl : (pm.endLine == pc.line) = true) :
    PS X (.Expr (.Call (.Attribute (.Name x px) "clear" pm) [] [] pc) pos) (tS L lv (.mut fz .clear i .nil) W) := by
  obtain ⟨p1, p2⟩ := loc_of yo.x hi
  refine PS.imp (ps_expr (pe_bm0 PySem.F.plainAttrs_list PySem.F.slot_list_clear PySem.F.type_list_clear mt_clear (pe_var p1 p2 (sNe h1) (sNe h2)) rfl hl) rfl) fun D σ H ⟨F, e, S, R, o⟩ => ?_
  obtain ⟨S', _, R'⟩ := R.frz fz
  rw [execS] at o
  split at o
  · rename_i ds hz
    obtain ⟨w, e1, b, xs, rfl, hb, hz2, hr, hn, hf⟩ := R'.sl i _ hz
    rw [evalEs] at o
    exact ⟨_, e1, .inl ⟨rfl, xs, .inl (.inl hb)⟩, b, xs, rfl, rfl, hb, o σ _ S' (R'.write hz e1 (Nat.zero_le _) .nil)⟩
  · exact o.elim
theorem s_rev (yo : YOk L lv se X) {i : Nat} {fz : List Nat} {x : Str} {px pm pc pos : Pos} (hi : locOf se x = some i) (h1 : sEq x "__debug__" = false) (h2 : sEq x "__classdict__" = false) (hl : (pm.endLine == pc.line) = true) :
    PS X (.Expr (.Call (.Attribute (.Name x px) "reverse" pm) [] [] pc) pos) (tS L lv (.mut fz .reverse i .nil) W) := by
  obtain ⟨p1, p2⟩ := loc_of yo.x hi
  refine PS.imp (ps_expr (pe_bm0 PySem.F.plainAttrs_list PySem.F.slot_list_reverse PySem.F.type_list_reverse mt_reverse (pe_var p1 p2 (sNe h1) (sNe h2)) rfl hl) rfl) fun D σ H ⟨F, e, S, R, o⟩ => ?_
  obtain ⟨S', _, R'⟩ := R.frz fz
  rw [execS] at o
  split at o
  · rename_i ds hz
    obtain ⟨w, e1, b, xs, rfl, hb, hz2, hr, hn, hf⟩ := R'.sl i _ hz
    rw [evalEs] at o
    exact ⟨_, e1, .inl ⟨rfl, xs, .inl (.inl hb)⟩, b, xs, rfl, rfl, hb, o σ _ S' (R'.write hz e1 (by rw [List.length_reverse]; exact hz2) hr.reverse)⟩
  · exact o.elim
theorem s_ext (yo : YOk L lv se X) {n i : Nat} {fz : List Nat} {x : Str} {a : Expr} {ma : Ex} {px pm pc pos : Pos} (hi : locOf se x = some i) (h1 : sEq x "__debug__" = false) (h2 : sEq x "__classdict__" = false) (hl : (pm.endLine == pc.line) = true) (ha : cE n se a = some ma) (ia : PE X a (tE L lv ma W)) :
    PS X (.Expr (.Call (.Attribute (.Name x px) "extend" pm) [a] [] pc) pos) (tS L lv (.ext fz i ma) W) := by
  obtain ⟨p1, p2⟩ := loc_of yo.x hi
  have hes : cEs (n + 1) se [a] = some (.cons ma .nil) := by
    unfold cEs
    rw [ha]
    cases n <;> rfl
  obtain ⟨s1, s2⟩ := args_star hes X.env pc
  refine PS.imp (ps_expr (pe_bm PySem.F.plainAttrs_list PySem.F.slot_list_extend PySem.F.type_list_extend mt_extend (pe_var p1 p2 (sNe h1) (sNe h2)) (pa_cons ia pa_nil s1) rfl (few hes rfl _ _) hl s1 s2) rfl) fun D σ H ⟨F, e, S, R, o⟩ => ?_
  obtain ⟨S', _, R'⟩ := R.frz fz
  rw [execS] at o
  split at o
  · rename_i ds hz
    obtain ⟨w, e1, b, xs, rfl, hb, hz2, hr, hn, hf⟩ := R'.sl i _ hz
    refine ⟨_, e1, .inl ⟨rfl, xs, .inl (.inl hb)⟩, in_tE R' o fun sv v H1 S1 g R1 r o1 => ?_⟩
    split at o1
    · rename_i es
      obtain ⟨c, ys, rfl, hc, hcz, hcr, _⟩ := r
      split at o1
      · rename_i hle
        obtain ⟨w2, e2, b2, xs2, e3, hb2, hz3, hr2, _⟩ := R1.sl i _ hz
        rw [e1] at e2
        cases e2
        cases e3
        have e4 := hr2.len
        have e5 := hcr.len
        exact ⟨b, c, xs2, ys, rfl, rfl, hb2, hc, by rw [← lim]; omega, o1 σ _ S1 (R1.write hz e1 (by rw [List.length_append]; omega) (hr2.append hcr))⟩
      · exact o1.elim
    · exact o1.elim
  · exact o.elim
theorem s_ins (yo : YOk L lv se X) {n n2 n3 i : Nat} {fz : List Nat} {x : Str} {a b : Expr} {ma mb : Ex} {px pm pc pos : Pos} (hi : locOf se x = some i) (h1 : sEq x "__debug__" = false) (h2 : sEq x "__classdict__" = false) (hl : (pm.endLine == pc.line) = true) (hes : cEs n3 se [a, b] = some (.cons ma (.cons mb .nil))) (ha : cE n se a = some ma) (hb : cE n2 se b = some mb) (ia : PE X a (tE L lv ma W)) (ib : PE X b (tE L lv mb W)) :
    PS X (.Expr (.Call (.Attribute (.Name x px) "insert" pm) [a, b] [] pc) pos) (tS L lv (.mut fz .insert i (.cons ma (.cons mb .nil))) W) := by
  obtain ⟨p1, p2⟩ := loc_of yo.x hi
  obtain ⟨s1, s2⟩ := args_star hes X.env pc
  refine PS.imp (ps_expr (pe_bm PySem.F.plainAttrs_list PySem.F.slot_list_insert PySem.F.type_list_insert mt_insert (pe_var p1 p2 (sNe h1) (sNe h2)) (a_cons ha ia (a_cons hb ib a_nil)) rfl (few hes rfl _ _) hl s1 s2) rfl) fun D σ H ⟨F, e, S, R, o⟩ => ?_
  obtain ⟨S', _, R'⟩ := R.frz fz
  rw [execS] at o
  split at o
  · rename_i ds hz
    obtain ⟨w, e1, c, xs, rfl, hb, hz2, hr, hn, hf⟩ := R'.sl i _ hz
    refine ⟨_, e1, .inl ⟨rfl, xs, .inl (.inl hb)⟩, in_tA R' o fun es vs H1 S1 g R1 r o1 => ?_⟩
    match es, vs, r with
    | [d1, d], [v1, v], .cons r0 (.cons r1 .nil) =>
      cases d1 with
      | int k =>
        cases r0
        have key : mutate .insert ds [.int k, d] = if ds.length < LIM ∧ 0 ≤ k ∧ k < 2 ^ 63 then .ok (ds.take k.toNat ++ [d] ++ ds.drop k.toNat) else .no := rfl
        have o1 : OutR L F W D (match mutate .insert ds [.int k, d] with
          | .ok ys => .nx ((frz fz e).set i (some (.l1 ys)))
          | _ => .no) := o1
        rw [key] at o1
        by_cases hlt : ds.length < LIM ∧ 0 ≤ k ∧ k < 2 ^ 63
        · rw [if_pos hlt] at o1
          obtain ⟨w2, e2, b2, xs2, e3, hb2, hz3, hr2, _⟩ := R1.sl i _ hz
          rw [e1] at e2
          cases e2
          cases e3
          have e4 := hr2.len
          refine ⟨c, xs2, k, v, rfl, rfl, hb2, by rw [← lim]; omega, hlt.2.1, hlt.2.2, o1 σ _ S1 (R1.write hz e1 ?_ (((hr2.take _).append (.cons r1 .nil)).append (hr2.drop _)))⟩
          rw [List.length_append, List.length_append, List.length_take, List.length_drop, List.length_singleton]
          omega
        · rw [if_neg hlt] at o1
          exact o1.elim
      | _ => exact o1.elim
    | [], _, _ => exact o1.elim
    | [d], _, _ => cases d <;> exact o1.elim
    | d :: _ :: _ :: _, _, _ => cases d <;> exact o1.elim
  · exact o.elim
/-! ### a field is set -/
theorem rep_putF {G : Gx} {S : Hp} {f : Nat} {x : Str} {d : Dv} {v : V} (nd : G.fl.Nodup) (hx : G.fl[f]? = some x) (rv : RepS G S v d) : ∀ {xs : List (Str × V)} {fs : List (Nat × Dv)}, RepF G S xs fs → RepF G S (putF x v xs) (putD f d fs)
  | _, _, .nil => .cons hx rv .nil
  | _, _, .cons (x := y) (v := w) (xs := xs) (f := g) (d := d') (fs := fs) e r q => by
    show RepF G S (if y = x then (y, v) :: xs else (y, w) :: putF x v xs) (if g = f then (f, d) :: fs else (g, d') :: putD f d fs)
    by_cases h : g = f
    · subst h
      rw [hx] at e
      cases e
      rw [if_pos rfl, if_pos rfl]
      exact .cons hx rv q
    · have h2 : y ≠ x := fun z => h (by subst z; exact (nd_ix nd hx e).symm)
      rw [if_neg h, if_neg h2]
      exact .cons e r (rep_putF nd hx rv q)
theorem repF_len {G : Gx} {S : Hp} : ∀ {xs : List (Str × V)} {fs : List (Nat × Dv)}, RepF G S xs fs → xs.length = fs.length
  | _, _, .nil => rfl
  | _, _, .cons _ _ q => by rw [List.length_cons, List.length_cons, repF_len q]
theorem Rel.writeO {G : Gx} {F : Fm} {e : Env} {σ : L2.St} {H S : Hp} (R : Rel G F e σ H S) {i C : Nat} {fs fs' : List (Nat × Dv)} {a dx : Addr} {ys : List (Str × V)} (h : slot e i = some (.o1 C fs)) (hv : σ[i]? = some (some (.ref a))) (hr : RepF G S ys fs') :
    Rel G F (e.set i (some (.o1 C fs'))) σ (upd H a (.ins (G.cA C) dx ys)) S := by
  obtain ⟨v, hv2, a2, dx2, xs, rfl, ha, hc, _, hn, hm⟩ := R.sl i _ h
  rw [hv] at hv2
  cases hv2
  exact R.change h hv (fun b hb => upd_ne hb) (fun b hb => by obtain rfl : b = a := hb; rw [upd_same]; simp) ⟨a, dx, ys, rfl, upd_same, hc, hr, hn, hm⟩ fun b hb => hb
theorem noswapA {n : Nat} {se : SE} {b : Expr} {m : Ex} (h : cE n se b = some m) (o : Expr) (f : Str) (p : Pos) (l : Nat) (env : PySem.Env) : swapsWith b (some (.Attribute o f p)) l env = pure false := by
  cases n with
  | zero => unfold cE at h; cases h
  | succ n => cases b <;> first | rfl | (unfold cE at h; cases h; done)
theorem s_setf (co : CallsOk L lv) (yo : YOk L lv se X) {n j : Nat} {fz : List Nat} {x f : Str} {v : Expr} {m : Ex} {px p pos : Pos} (hi : locOf se x = some 0) (h1 : sEq x "__debug__" = false) (h2 : sEq x "__classdict__" = false) (hf : ixOf f se.fl = some j) (hv : cE n se v = some m) (ie : PE X v (tE L lv m W)) :
    PS X (.Assign [.Attribute (.Name x px) f p] v pos) (tS L lv (.setf fz j m) W) := by
  obtain ⟨p1, p2⟩ := loc_of yo.x hi
  have hx : L.G.fl[j]? = some f := by rw [← yo.x.fl]; exact ixOf_get hf
  refine PS.imp (ps_fld (pe_var p1 p2 (sNe h1) (sNe h2)) ie (noswapA hv _ _ _ _ _)) fun D σ H ⟨F, e, S, R, o⟩ => ?_
  obtain ⟨S', _, R'⟩ := R.frz fz
  rw [execS] at o
  rw [yo.x.K]
  refine in_tE R' o fun sv w H1 S1 g R1 r o1 => ?_
  split at o1
  · rename_i d C fs hs hz
    split at o1
    · rename_i hlt
      obtain ⟨S2, g2, _, rd⟩ := RepV.share2 g r hs
      have R2 := R'.mono g2
      obtain ⟨u, e1, a, dx, xs, rfl, ha, hc, hr, hn, hM⟩ := R2.sl 0 _ hz
      obtain ⟨k1, k2⟩ := co.fld C hc
      refine ⟨.ref a, e1, a, L.G.cA C, dx, xs, rfl, ha, k1, k2 f (List.mem_of_getElem? hx), by rw [repF_len hr]; omega, ?_⟩
      exact o1 σ _ S2 (R2.writeO hz e1 (rep_putF co.fnd hx rd hr))
    · exact o1.elim
  · exact o1.elim
/-! ### plain statements -/
theorem s_expr {n : Nat} {fz : List Nat} {v : Expr} {m : Ex} {pos : Pos} (hv : cE n se v = some m) (hl : isLc v = false) (ie : PE X v (tE L lv m W)) : PS X (.Expr v pos) (tS L lv (.expr fz m) W) := by
  refine PS.imp (ps_expr ie (noswap hv hl _ _ _)) fun D σ H ⟨F, e, S, R, o⟩ => ?_
  obtain ⟨S', _, R'⟩ := R.frz fz
  rw [execS] at o
  exact in_tE R' o fun sv v H1 S1 g R1 r o1 => o1 σ H1 S1 R1
theorem own_new {G : Gx} {F : Fm} {e : Env} {σ : L2.St} {H S H1 S1 : Hp} (R : Rel G F e σ H S) {v : V} {sv : Sv} (r : RepV G H H1 S1 v sv) (hb : ∀ d, sv ≠ .bw d) : Own G F H1 S1 v sv := by
  cases sv with
  | sh d => exact r
  | l1 ds =>
    obtain ⟨a, xs, rfl, ha, hz, hr, hn, h0⟩ := r
    refine ⟨a, xs, rfl, ha, hz, hr, hn, ?_⟩
    cases q : F.H0 a with
    | none => rfl
    | some o => exact absurd h0 (R.keep a (by rw [q]; simp))
  | bw d => exact absurd rfl (hb d)
  | d1 kvs =>
    obtain ⟨a, xs, rfl, ha, hr, hn, h0⟩ := r
    refine ⟨a, xs, rfl, ha, hr, hn, ?_⟩
    cases q : F.H0 a with
    | none => rfl
    | some o => exact absurd h0 (R.keep a (by rw [q]; simp))
  | _ => exact r.elim
theorem s_ret {fz : List Nat} {v : Expr} {m : Ex} {pos : Pos} (ie : PE X v (tE L lv m W)) : PS X (.Return (some v) pos) (tS L lv (.ret fz m) W) := by
  refine PS.imp (ps_ret ie) fun D σ H ⟨F, e, S, R, o⟩ => ?_
  obtain ⟨S', _, R'⟩ := R.frz fz
  rw [execS] at o
  refine in_tE R' o fun sv v H1 S1 g R1 r o1 => ?_
  split at o1
  · exact o1.elim
  · rename_i hne
    exact o1 v σ H1 S1 R1 (own_new R' r fun d z => hne d z)
theorem s_retv (yo : YOk L lv se X) {x : Str} {i : Nat} {p pos : Pos} (h : nmIx se (.Name x p) = some i) : PS X (.Return (some (.Name x p)) pos) (tS L lv (.retv i) W) := by
  simp only [nmIx] at h
  cases hj : locOf se x with
  | none => rw [hj] at h; cases h
  | some j =>
    rw [hj] at h
    by_cases hc : (se.mu.contains j && !sEq x "__debug__" && !sEq x "__classdict__") = true
    · have h : (if (se.mu.contains j && !sEq x "__debug__" && !sEq x "__classdict__") = true then some j else none) = some i := h
      rw [if_pos hc] at h
      cases h
      obtain ⟨h1, h2⟩ := and_t hc
      obtain ⟨h0, h3⟩ := and_t h1
      obtain ⟨p1, p2⟩ := loc_of yo.x hj
      refine PS.imp (ps_ret (pe_var p1 p2 (sNe (by simpa using h3)) (sNe (by simpa using h2)))) fun D σ H ⟨F, e, S, R, o⟩ => ?_
      rw [execS] at o
      split at o
      · rename_i sv hs
        obtain ⟨w, e1, ow⟩ := R.sl _ _ hs
        refine ⟨w, e1, o w σ H S ?_ ow⟩
        have R2 := R.drop (i := i) (o := some w)
        have e2 : σ.set i (some w) = σ := by
          refine List.ext_getElem? fun q => ?_
          by_cases hq : i = q
          · subst hq
            have hl := (List.getElem?_eq_some_iff.mp e1).1
            rw [List.getElem?_set_self hl, e1]
          · rw [List.getElem?_set_ne hq]
        rw [e2] at R2
        exact R2
      · exact o.elim
    · have h : (if (se.mu.contains j && !sEq x "__debug__" && !sEq x "__classdict__") = true then some j else none) = some i := h
      rw [if_neg hc] at h
      cases h
theorem s_retN {pos : Pos} : PS X (.Return none pos) (tS L lv .retN W) := by
  refine PS.imp ps_retN fun D σ H ⟨F, e, S, R, o⟩ => ?_
  rw [execS] at o
  exact o .non σ H S R .non
theorem s_pass {pos : Pos} : PS X (.Pass pos) (tS L lv .pass W) := PS.imp ps_pass fun D σ H ⟨F, e, S, R, o⟩ => by
  rw [execS] at o
  exact o σ H S R
theorem s_brk {pos : Pos} : PS X (.Break pos) (tS L lv .brk W) := PS.imp ps_break fun D σ H ⟨F, e, S, R, o⟩ => by
  rw [execS] at o
  exact o σ H S R
theorem s_cnt {pos : Pos} : PS X (.Continue pos) (tS L lv .cnt W) := PS.imp ps_continue fun D σ H ⟨F, e, S, R, o⟩ => by
  rw [execS] at o
  exact o σ H S R
theorem s_nil : PSs X [] (tBk L lv .nil W) := PSs.imp pss_nil fun D σ H ⟨F, e, S, R, o⟩ => by
  rw [execB] at o
  exact o σ H S R
theorem s_cons {a : Stmt} {r : List Stmt} {m : Stm} {b : Blk} (ia : PS X a (tS L lv m W)) (ib : PSs X r (tBk L lv b W)) : PSs X (a :: r) (tBk L lv (.cons m b) W) := by
  refine PSs.imp (pss_cons ia ib) fun D σ H ⟨F, e, S, R, o⟩ => ⟨F, e, S, R, ?_⟩
  rw [execB] at o
  cases q : execS (clI L.pg lv) m e with
  | nx e1 =>
    rw [q] at o
    exact fun σ' H' S' R' => ⟨F, e1, S', R', o⟩
  | bk e1 => rw [q] at o; exact o
  | ct e1 => rw [q] at o; exact o
  | rt v e1 => rw [q] at o; exact o
  | ex C t e1 => rw [q] at o; exact o
  | no => rw [q] at o; exact o
theorem s_ite {fz : List Nat} {c : Expr} {a b : List Stmt} {mc : Ex} {ma mb : Blk} {pos : Pos} (ic : PT X c (tT L lv mc W)) (ia : PSs X a (tBk L lv ma W)) (ib : PSs X b (tBk L lv mb W)) : PS X (.If c a b pos) (tS L lv (.ite fz mc ma mb) W) := by
  refine PS.imp (ps_if ic ia ib) fun D σ H ⟨F, e, S, R, o⟩ => ?_
  obtain ⟨S', _, R'⟩ := R.frz fz
  rw [execS] at o
  refine in_tT R' o fun k H1 S1 g R1 o1 => ?_
  cases k with
  | true =>
    rw [if_pos rfl] at o1 ⊢
    exact ⟨F, _, S1, R1, o1⟩
  | false =>
    rw [if_neg Bool.false_ne_true] at o1 ⊢
    exact ⟨F, _, S1, R1, o1⟩
/-! ### loops -/
/-- a loop's turn, then on -/
theorem turn_out {F : Fm} {D : Ends} {N : L2.St → Hp → Prop} {r : Rt} {f : Env → Rt} (h : OutR L F W D (match r with
      | .nx e1 => f e1
      | .ct e1 => f e1
      | .bk e1 => .nx e1
      | r => r)) (hN : ∀ e1, OutR L F W D (f e1) → ∀ σ' H' S', Rel L.G F e1 σ' H' S' → N σ' H') : OutR L F W { D with nx := N, ct := N, bk := D.nx } r := by
  cases r with
  | nx e1 => exact hN e1 h
  | ct e1 => exact hN e1 h
  | bk e1 => exact h
  | rt v e1 => exact h
  | ex C t e1 => exact h
  | no => exact h
theorem s_whl (yo : YOk L lv se X) {fz : List Nat} {c : Expr} {b : List Stmt} {mc : Ex} {mb : Blk} {pos : Pos} (ic : PT X c (tT L lv mc W)) (ib : PSs X b (tBk L lv mb W)) : PS X (.While c b [] pos) (tS L lv (.whl fz mc mb) W) := by
  refine PS.imp (ps_while yo.ps ic ib) fun D σ H ⟨F, e, S, R, o⟩ => ?_
  rw [execS] at o
  refine ⟨fun m σ H => ∃ e S, Rel L.G F e σ H S ∧ OutR L F W D (whileI (evalT (clI L.pg lv) mc) (execB (clI L.pg lv) mb) fz m e), ⟨TURNS, e, S, R, o⟩, ?_⟩
  intro m σ H ⟨e, S, R, o⟩
  cases m with
  | zero =>
    rw [whileI] at o
    exact o.elim
  | succ m =>
    rw [whileI] at o
    obtain ⟨S', _, R'⟩ := R.frz fz
    refine in_tT R' o fun k H1 S1 g R1 o1 => ?_
    cases k with
    | true =>
      rw [if_pos rfl] at o1 ⊢
      refine ⟨fun σ' H' => ∃ e S, Rel L.G F e σ' H' S ∧ OutR L F W D (whileI (evalT (clI L.pg lv) mc) (execB (clI L.pg lv) mb) fz m e), fun σ' H' q => ⟨m, Nat.lt_succ_self m, q⟩, F, _, S1, R1, ?_⟩
      exact turn_out o1 fun e1 q σ' H' S' R2 => ⟨e1, S', R2, q⟩
    | false =>
      rw [if_neg Bool.false_ne_true] at o1 ⊢
      exact o1 σ H1 S1 R1
theorem Rel.relax {G : Gx} {F : Fm} {e1 e2 : Env} {σ1 σ2 : L2.St} {H1 S1 H2 S2 : Hp} (R1 : Rel G F e1 σ1 H1 S1) (R : Rel G { F with S0 := S1 } e2 σ2 H2 S2) : Rel G F e2 σ2 H2 S2 where
  sub := R.sub
  old := R.old
  keep := R.keep
  s0 := R1.s0.trans R.s0
  new := fun a o q => by
    rcases R.new a o q with q | q
    · exact R1.new a o q
    · exact .inr q
  len := R.len
  sl := fun i sv q => by
    obtain ⟨v, h1, h2⟩ := R.sl i sv q
    refine ⟨v, h1, ?_⟩
    cases sv <;> exact h2
  ap := R.ap
theorem Rel.tight {G : Gx} {F : Fm} {e1 : Env} {σ1 : L2.St} {H1 S1 : Hp} (R : Rel G F e1 σ1 H1 S1) : Rel G { F with S0 := S1 } e1 σ1 H1 S1 where
  sub := R.sub
  old := R.old
  keep := R.keep
  s0 := .refl S1
  new := fun a o q => .inl q
  len := R.len
  sl := fun i sv q => by
    obtain ⟨v, h1, h2⟩ := R.sl i sv q
    refine ⟨v, h1, ?_⟩
    cases sv <;> exact h2
  ap := R.ap
theorem OutR.tight {F : Fm} {e1 : Env} {σ1 : L2.St} {H1 S1 : Hp} (R1 : Rel L.G F e1 σ1 H1 S1) {D : Ends} {r : Rt} (h : OutR L F W D r) : OutR L { F with S0 := S1 } W D r := by
  cases r with
  | nx e => exact fun σ' H' S' R => h σ' H' S' (R1.relax R)
  | bk e => exact fun σ' H' S' R => h σ' H' S' (R1.relax R)
  | ct e => exact fun σ' H' S' R => h σ' H' S' (R1.relax R)
  | rt v e =>
    intro w σ' H' S' R ow
    refine h w σ' H' S' (R1.relax R) ?_
    cases v <;> exact ow
  | ex C t e => exact fun σ' H' S' R => h σ' H' S' (R1.relax R)
  | no => exact h
theorem s_for (yo : YOk L lv se X) {fz : List Nat} {tg it : Expr} {b : List Stmt} {t : Tg} {s : Src} {mb : Blk} {pos : Pos} (ii : PI X tg it (tI L lv true s W)) (hs : ∀ x, foldedSetIterable it X.env x = pure x) (ht : cTg se false tg = some t) (ib : PSs X b (tBk L lv mb W)) :
    PS X (.For tg it b [] pos) (tS L lv (.for fz t s mb) W) := by
  have g := pg_of (X := X) yo.x.calm yo.x.nd yo.stores ht
  rw [yo.x.K] at g
  refine PS.imp (ps_for yo.ps yo.x.calm ii g ib hs) fun D σ H ⟨F, e, S, R, o⟩ => ?_
  obtain ⟨S', _, R'⟩ := R.frz fz
  rw [execS] at o
  refine in_tI R' o fun ds J H1 S1 gr R1 wk hl o1 => ?_
  have wk : Walks L J S1 S1 ds := wk
  have R2 := R1.tight
  refine ⟨fun i m σ H => m = ds.length - i ∧ ∃ e S, Rel L.G { F with S0 := S1 } e σ H S ∧ OutR L { F with S0 := S1 } W D (forI t (execB (clI L.pg lv) mb) (ds.drop i) e), ⟨_, rfl, _, S1, R2, OutR.tight R1 (by rw [List.drop_zero]; exact o1)⟩, ?_⟩
  intro i m σ2 H2 ⟨hm, e2, S2, R3, o3⟩
  have wki := wk H2 S2 i (R3.s0.trans R3.sub) R3.s0 R3.sub
  by_cases hi : ds.length ≤ i
  · refine .inl ⟨wki.2 hi, ?_⟩
    rw [List.drop_of_length_le hi, forI] at o3
    exact o3 σ2 H2 S2 R3
  · have hi2 : i < ds.length := by omega
    have hd : ds[i]? = some ds[i] := List.getElem?_eq_getElem hi2
    obtain ⟨jg, jy⟩ := wki.1 _ hd
    rw [List.drop_eq_getElem_cons hi2, forI] at o3
    refine .inr ⟨jg, fun σ' H' => ∃ e S, Rel L.G { F with S0 := S1 } e σ' H' S ∧ OutR L { F with S0 := S1 } W D (forI t (execB (clI L.pg lv) mb) (ds.drop (i + 1)) e), fun σ' H' q => ⟨ds.length - (i + 1), by omega, rfl, q⟩, fun x H3 y => ?_⟩
    obtain ⟨S3, g3, r3⟩ := jy x H3 y
    have R4 := R3.mono g3
    cases hb : bindD t ds[i] e2 with
    | none => rw [hb] at o3; exact o3.elim
    | some e3 =>
      rw [hb] at o3
      have fin : ∀ σ4, Rel L.G { F with S0 := S1 } e3 σ4 H3 S3 → tBk L lv mb W { D with nx := fun σ' H' => ∃ e S, Rel L.G { F with S0 := S1 } e σ' H' S ∧ OutR L { F with S0 := S1 } W D (forI t (execB (clI L.pg lv) mb) (ds.drop (i + 1)) e), ct := fun σ' H' => ∃ e S, Rel L.G { F with S0 := S1 } e σ' H' S ∧ OutR L { F with S0 := S1 } W D (forI t (execB (clI L.pg lv) mb) (ds.drop (i + 1)) e), bk := D.nx } σ4 H3 := fun σ4 R5 =>
        ⟨_, e3, S3, R5, turn_out o3 fun e1 q σ' H' S' R6 => ⟨e1, S', R6, q⟩⟩
      cases t with
      | nm i k => exact tg_ok (own := [i]) (σ0 := σ2) R4 .refl (by unfold tgIn; simp) r3 hb fun σ4 R5 _ => fin σ4 R5
      | tp is => exact tg_ok (own := is) (σ0 := σ2) R4 .refl (by unfold tgIn; simp) r3 hb fun σ4 R5 _ => fin σ4 R5
/-! ### exceptions -/
theorem s_rai (co : CallsOk L lv) (yo : YOk L lv se X) (tk : Takes X W) {x m : Str} {C j : Nat} {p p2 pos pos2 : Pos} (hx : gloOf se x = some (.own (.exc C))) (hd : sEq x "__debug__" = false) :
    PS X (.Raise (some (.Call (.Name x p) [.Constant (.str m) j p2] [] pos)) none pos2) (tS L lv (.rai C) W) := by
  obtain ⟨gy, ly⟩ := glo_own yo.x hx
  have hm := co.exc x C ly
  cases hs : L.pg.sub C C with
  | none =>
    refine ⟨fun pins s σ H D I h => ?_⟩
    obtain ⟨F, e, S, R, o⟩ := h
    rw [execS] at o
    have o : OutR L F W D (match L.pg.sub C C with
      | some _ => .ex C none e
      | none => .no) := o
    rw [hs] at o
    exact o.elim
  | some k =>
    have E := co.rai C k hs
    refine PS.imp (ps_raise yo.x.calm tk (pmk_own PySem.F.excBase_ValueError (by rw [yo.x.K]; exact E.own) (by rw [yo.x.mg]; exact hm) (by rw [yo.x.K]; exact E.kp) (raises_own (by rw [yo.x.K]; exact E.sub) (by rw [yo.x.K]; exact E.ty)) gy (sNe hd))) fun D σ H ⟨F, e, S, R, o⟩ => ?_
    rw [execS] at o
    have o : OutR L F W D (match L.pg.sub C C with
      | some _ => .ex C none e
      | none => .no) := o
    rw [hs] at o
    exact o σ H S R
end
end Dg

/-! The evaluator is sound: xs[i] = e, d[k] = e, x = xs.pop(..), lists of lists. -/
namespace Dg
open PySem PySem.Spec L2
section
variable {L : Lk} {lv : Nat} {se : SE} {X : Cx} {W : WX}
def rSetA : TSet := fun o i v H Q => rSetL o i v H Q ∨ rSetD o i v H Q
theorem set_any (hu : X.A.units + 1 < cLine) : PSet X rSetA := by
  intro pins s σ H o i v ov iv u Q I ro ri rv h
  rcases h with h | h
  · exact set_list pins s σ H o i v ov iv u Q I ro ri rv h
  · exact set_dict hu pins s σ H o i v ov iv u Q I ro ri rv h
theorem ps_put {o i value : Expr} {td ty tv : TE} {t : TSet} {pos pos' : Pos} (ho : PE X o td) (hi : PE X i ty) (hv : PE X value tv) (ht : PSet X t) (hs : swapsWith value (some (.Subscript o i pos')) pos.line X.env = pure false) :
    PS X (.Assign [.Subscript o i pos'] value pos) (fun D σ H => tv σ H fun v H1 => td σ H1 fun x H2 => ty σ H2 fun y H3 => t x y v H3 fun H4 => D.nx σ H4) := by
  refine ⟨fun pins s σ H D I h => ?_⟩
  refine wpAny_Assign_Subscript (thn (hv.run pins s σ H _ I h) fun r s1 ⟨v, H1, I1, rv, q1⟩ => thn (ho.run pins s1 σ H1 _ I1 q1) fun u s2 ⟨x, H2, I2, rx, q2⟩ => thn (hi.run pins s2 σ H2 _ I2 q2) fun iv s3 ⟨y, H3, I3, ry, q3⟩ => ?_) hs
  exact thn (ht pins s3 σ H3 x y v u iv r _ I3 rx ry rv q3) fun _ s4 ⟨H4, I4, q4⟩ => ⟨σ, H4, I4, q4⟩
theorem noswapS {n : Nat} {se : SE} {b : Expr} {m : Ex} (h : cE n se b = some m) (o i : Expr) (p : Pos) (l : Nat) (env : PySem.Env) : swapsWith b (some (.Subscript o i p)) l env = pure false := by
  cases n with
  | zero => unfold cE at h; cases h
  | succ n => cases b <;> first | rfl | (unfold cE at h; cases h; done)
theorem any_rep {S : Hp} {i : Int} : ∀ {kvs : List (Dv × Dv)} {kv : List (Key × V)}, RepK L.G S kv kvs → (kv.any fun p => decide (p.1 = .inl i)) = kvs.any fun p => isKey i p.1
  | [], _, r => by cases r; rfl
  | (k, d) :: kvs, _, r => by
    cases r with
    | @cons j v _ kv _ a b =>
      rw [List.any_cons, List.any_cons, any_rep b]
      congr 1
      show decide ((Sum.inl j : Key) = .inl i) = decide (j = i)
      by_cases h : j = i
      · rw [h]; simp
      · rw [decide_eq_false h, decide_eq_false fun e => h (by injection e)]
theorem map_repK {S : Hp} {i : Int} {v : V} {d : Dv} (q : RepS L.G S v d) : ∀ {kvs : List (Dv × Dv)} {kv : List (Key × V)}, RepK L.G S kv kvs → RepK L.G S (kv.map fun p => if p.1 = .inl i then (p.1, v) else p) (kvs.map fun p => if isKey i p.1 then (p.1, d) else p)
  | [], _, r => by cases r; exact .nil
  | (k, e) :: kvs, _, r => by
    cases r with
    | @cons j w _ kv _ a b =>
      rw [List.map_cons, List.map_cons]
      by_cases h : j = i
      · have e1 : (Sum.inl j : Key) = .inl i := by rw [h]
        have e2 : isKey i (.int j) = true := decide_eq_true h
        show RepK L.G S ((if (Sum.inl j : Key) = .inl i then (Sum.inl j, v) else (Sum.inl j, w)) :: _) ((if isKey i (.int j) = true then (.int j, d) else (.int j, e)) :: _)
        rw [if_pos e1, if_pos e2]
        exact .cons q (map_repK q b)
      · have e1 : ¬ (Sum.inl j : Key) = .inl i := fun e => h (by injection e)
        have e2 : ¬ isKey i (.int j) = true := fun e => h (of_decide_eq_true e)
        show RepK L.G S ((if (Sum.inl j : Key) = .inl i then (Sum.inl j, v) else (Sum.inl j, w)) :: _) ((if isKey i (.int j) = true then (.int j, d) else (.int j, e)) :: _)
        rw [if_neg e1, if_neg e2]
        exact .cons a (map_repK q b)
theorem RepK.snoc {S : Hp} {i : Int} {v : V} {d : Dv} (q : RepS L.G S v d) : ∀ {kvs : List (Dv × Dv)} {kv : List (Key × V)}, RepK L.G S kv kvs → RepK L.G S (kv ++ [(.inl i, v)]) (kvs ++ [(.int i, d)])
  | [], _, r => by cases r; exact .cons q .nil
  | (k, e) :: kvs, _, r => by
    cases r with
    | cons a b => exact .cons a (RepK.snoc q b)
theorem rep_putI {S : Hp} {i : Int} {v : V} {d : Dv} {kvs : List (Dv × Dv)} {kv : List (Key × V)} (r : RepK L.G S kv kvs) (q : RepS L.G S v d) : RepK L.G S (putK kv (.inl i) v) (putI i d kvs) := by
  unfold putK putI
  rw [any_rep r]
  split
  · exact map_repK q r
  · exact r.snoc q
theorem repK_len {S : Hp} : ∀ {kvs : List (Dv × Dv)} {kv : List (Key × V)}, RepK L.G S kv kvs → kv.length = kvs.length
  | [], _, r => by cases r; rfl
  | (k, e) :: kvs, _, r => by
    cases r with
    | cons a b => rw [List.length_cons, List.length_cons, repK_len b]
theorem s_seti (yo : YOk L lv se X) {n i : Nat} {fz : List Nat} {x : Str} {k v : Expr} {mk mv : Ex} {px sp pos : Pos} (hi : locOf se x = some i) (h1 : sEq x "__debug__" = false) (h2 : sEq x "__classdict__" = false) (hv : cE n se v = some mv) (ik : PE X k (tE L lv mk W)) (iv : PE X v (tE L lv mv W)) :
    PS X (.Assign [.Subscript (.Name x px) k sp] v pos) (tS L lv (.seti fz i mk mv) W) := by
  obtain ⟨p1, p2⟩ := loc_of yo.x hi
  refine PS.imp (ps_put (pe_var p1 p2 (sNe h1) (sNe h2)) ik iv (set_any (by have := hu_X yo.x; omega)) (noswapS hv _ _ _ _ _)) fun D σ H ⟨F, e, S, R, o⟩ => ?_
  obtain ⟨S', _, R'⟩ := R.frz fz
  rw [execS] at o
  split at o
  · rename_i ds hz
    refine in_tE R' o fun sv w H1 S1 g R1 r o1 => ?_
    split at o1
    · rename_i d hs
      obtain ⟨S2, g2, _, rd⟩ := RepV.share2 g r hs
      have R2 := R'.mono g2
      obtain ⟨u, e1, a, xs, rfl, ha, hz2, hr, hn, hf⟩ := R2.sl i _ hz
      refine ⟨.ref a, e1, in_tE R2 o1 fun sy y H3 S3 g3 R3 r3 o3 => ?_⟩
      split at o3
      · rename_i j hj
        split at o3
        · rename_i p hp
          have e4 := hr.len
          obtain ⟨u2, e2, a2, xs2, e3, ha2, hz3, hr2, _⟩ := R3.sl i _ hz
          rw [e1] at e2
          cases e2
          cases e3
          have e5 := hr2.len
          refine .inl ⟨a, xs2, j, p, rfl, int_of R3.sub r3 hj, ha2, by rw [e5]; exact hp, ?_⟩
          exact o3 σ _ S3 (R3.write hz e1 (by rw [List.length_set]; exact hz3) (hr2.set (rd.mono g3.s) p))
        · exact o3.elim
      · exact o3.elim
    · exact o1.elim
  · rename_i kvs hz
    refine in_tE R' o fun sv w H1 S1 g R1 r o1 => ?_
    split at o1
    · rename_i d hs
      obtain ⟨S2, g2, _, rd⟩ := RepV.share2 g r hs
      have R2 := R'.mono g2
      obtain ⟨u, e1, a, xs, rfl, ha, hr, hn, hf⟩ := R2.sl i _ hz
      refine ⟨.ref a, e1, in_tE R2 o1 fun sy y H3 S3 g3 R3 r3 o3 => ?_⟩
      split at o3
      · rename_i j hj
        split at o3
        · rename_i hlt
          obtain ⟨u2, e2, a2, xs2, e3, ha2, hr2, _⟩ := R3.sl i _ hz
          rw [e1] at e2
          cases e2
          cases e3
          have e5 := repK_len hr2
          refine .inr ⟨a, _, rfl, .inl ⟨xs2, .inl j, ha2, int_of R3.sub r3 hj, by rw [← lim]; omega, rfl⟩, ?_⟩
          exact o3 σ _ S3 (R3.writeD hz e1 (rep_putI hr2 (rd.mono g3.s)))
        · exact o3.elim
      · exact o3.elim
    · exact o1.elim
  · exact o.elim
/-! ### x = xs.pop(..) -/
theorem s_pop0 (yo : YOk L lv se X) {i j : Nat} {fz : List Nat} {x y : Str} {px py pm pc pos : Pos} (hx : stoOf se x = some i) (hi : locOf se y = some j) (h1 : sEq y "__debug__" = false) (h2 : sEq y "__classdict__" = false) (hl : (pm.endLine == pc.line) = true) :
    PS X (.Assign [.Name x px] (.Call (.Attribute (.Name y py) "pop" pm) [] [] pc) pos) (tS L lv (.popA fz (.nm i false) j .non) W) := by
  obtain ⟨p1, p2⟩ := loc_of yo.x hi
  obtain ⟨a, b, c⟩ := yo.stores x i hx
  refine PS.imp (ps_set yo.x.nd a b (pe_bm0 PySem.F.plainAttrs_list PySem.F.slot_list_pop PySem.F.type_list_pop mt_pop (pe_var p1 p2 (sNe h1) (sNe h2)) rfl hl) rfl c) fun D σ H ⟨F, e, S, R, o⟩ => ?_
  obtain ⟨S', _, R'⟩ := R.frz fz
  rw [execS] at o
  split at o
  · rename_i ds hz
    obtain ⟨w, e1, b, xs, rfl, hb, hz2, hr, hn, hf⟩ := R'.sl j _ hz
    rw [evalO] at o
    have o : OutR L F W D (match popI ds none with
      | some (d, ys) => match bindD (.nm i false) d ((frz fz e).set j (some (.l1 ys))) with
        | some e1 => .nx e1
        | none => .no
      | none => .no) := o
    unfold popI at o
    have e4 := hr.len
    cases hg : ds[ds.length - 1]? with
    | none => rw [hg] at o; exact o.elim
    | some d =>
      rw [hg] at o
      obtain ⟨u, hu, ru⟩ := hr.get hg
      refine ⟨_, e1, .inl ⟨rfl, xs, .inl (.inl hb)⟩, b, xs, u, rfl, rfl, hb, by rw [e4]; exact hu, ?_⟩
      exact o _ _ S' ((R'.write hz e1 (by rw [List.length_dropLast]; omega) hr.dropLast).putS ru)
  · exact o.elim
theorem s_pop1 (yo : YOk L lv se X) {n i j : Nat} {fz : List Nat} {x y : Str} {k : Expr} {mk : Ex} {px py pm pc pos : Pos} (hx : stoOf se x = some i) (hi : locOf se y = some j) (h1 : sEq y "__debug__" = false) (h2 : sEq y "__classdict__" = false) (hl : (pm.endLine == pc.line) = true) (hk : cE n se k = some mk) (ik : PE X k (tE L lv mk W)) :
    PS X (.Assign [.Name x px] (.Call (.Attribute (.Name y py) "pop" pm) [k] [] pc) pos) (tS L lv (.popA fz (.nm i false) j (.som mk)) W) := by
  obtain ⟨p1, p2⟩ := loc_of yo.x hi
  obtain ⟨a, b, c⟩ := yo.stores x i hx
  have hes : cEs (n + 1) se [k] = some (.cons mk .nil) := by
    unfold cEs
    rw [hk]
    cases n <;> rfl
  obtain ⟨s1, s2⟩ := args_star hes X.env pc
  refine PS.imp (ps_set yo.x.nd a b (pe_bm PySem.F.plainAttrs_list PySem.F.slot_list_pop PySem.F.type_list_pop mt_popAt (pe_var p1 p2 (sNe h1) (sNe h2)) (pa_cons ik pa_nil s1) rfl (few hes rfl _ _) hl s1 s2) rfl c) fun D σ H ⟨F, e, S, R, o⟩ => ?_
  obtain ⟨S', _, R'⟩ := R.frz fz
  rw [execS] at o
  split at o
  · rename_i ds hz
    obtain ⟨w, e1, b, xs, rfl, hb, hz2, hr, hn, hf⟩ := R'.sl j _ hz
    rw [evalO] at o
    refine ⟨_, e1, .inl ⟨rfl, xs, .inl (.inl hb)⟩, ?_⟩
    refine tE.bind R' (P := fun r => OutR L F W D (Rs.inE r (frz fz e) fun o => match popI ds o with
      | some (d, ys) => match bindD (.nm i false) d ((frz fz e).set j (some (.l1 ys))) with
        | some e1 => .nx e1
        | none => .no
      | none => .no)) (fun C t h H1 S1 g => h σ H1 S1 (R'.mono g)) (fun h => h) o fun sv v H1 S1 g R1 r o1 => ?_
    split at o1
    · rename_i z hzi
      have o1 : OutR L F W D (match popI ds (some z) with
        | some (d, ys) => match bindD (.nm i false) d ((frz fz e).set j (some (.l1 ys))) with
          | some e1 => .nx e1
          | none => .no
        | none => .no) := o1
      cases hp : popI ds (some z) with
      | none => rw [hp] at o1; exact o1.elim
      | some q =>
        obtain ⟨d, ys⟩ := q
        rw [hp] at o1
        have hp : (if -(2 ^ 63) ≤ z ∧ z < 2 ^ 63 then match ixN ds.length z with
          | some k => match ds[k]? with
            | some d => some (d, ds.eraseIdx k)
            | none => none
          | none => none else none) = some (d, ys) := hp
        split at hp
        · rename_i hb2
          split at hp
          · rename_i p hix
            split at hp
            · rename_i d' hd
              cases hp
              obtain ⟨w2, e2, b2, xs2, e3, hb3, hz3, hr2, _⟩ := R1.sl j _ hz
              rw [e1] at e2
              cases e2
              cases e3
              have e4 := hr2.len
              obtain ⟨u, hu, ru⟩ := hr2.get hd
              refine ⟨b, xs2, z, p, u, rfl, by rw [int_of R1.sub r hzi], hb3, hb2.1, hb2.2, by rw [e4]; exact (ixN_seq hix).1, hu, ?_⟩
              exact o1 _ _ S1 ((R1.write hz e1 (by rw [List.length_eraseIdx]; split <;> omega) (hr2.erase p)).putS ru)
            · cases hp
          · cases hp
        · cases hp
    · exact o1.elim
  · exact o.elim
end
end Dg

/-! The evaluator is sound: lists of lists. -/
namespace Dg
open PySem PySem.Spec L2
section
variable {L : Lk} {lv : Nat} {se : SE} {X : Cx} {W : WX}
theorem InnL.get {G : Gx} {H0 H S : Hp} : ∀ {bs : List Addr} {dss : List (List Dv)} {p : Nat} {ds : List Dv}, InnL G H0 H S bs dss → dss[p]? = some ds → ∃ b xs, bs[p]? = some b ∧ H b = some (.lst xs) ∧ xs.length ≤ LIM ∧ RepL G S xs ds
  | b :: bs, es :: dss, 0, ds, ⟨⟨xs, h, z, q, n, f⟩, t⟩, hp => by
    rw [List.getElem?_cons_zero] at hp
    cases hp
    exact ⟨b, xs, by rw [List.getElem?_cons_zero], h, z, q⟩
  | b :: bs, es :: dss, p + 1, ds, ⟨_, t⟩, hp => by
    rw [List.getElem?_cons_succ] at hp
    obtain ⟨c, xs, h1, h2⟩ := InnL.get t hp
    exact ⟨c, xs, by rw [List.getElem?_cons_succ]; exact h1, h2⟩
  | [], [], p, ds, _, hp => by cases hp
  | [], _ :: _, _, _, h, _ => h.elim
  | _ :: _, [], _, _, h, _ => h.elim
theorem InnL.len {G : Gx} {H0 H S : Hp} : ∀ {bs : List Addr} {dss : List (List Dv)}, InnL G H0 H S bs dss → bs.length = dss.length
  | [], [], _ => rfl
  | b :: bs, es :: dss, ⟨_, t⟩ => by rw [List.length_cons, List.length_cons, t.len]
  | [], _ :: _, h => h.elim
  | _ :: _, [], h => h.elim
theorem s_app2 (yo : YOk L lv se X) {n m i : Nat} {fz : List Nat} {x : Str} {k a : Expr} {mk ma : Ex} {px sp pm pc pos : Pos} (hi : locOf se x = some i) (h1 : sEq x "__debug__" = false) (h2 : sEq x "__classdict__" = false) (hl : (pm.endLine == pc.line) = true) (hk : cE m se k = some mk) (ha : cE n se a = some ma) (ik : PE X k (tE L lv mk W)) (ia : PE X a (tE L lv ma W)) :
    PS X (.Expr (.Call (.Attribute (.Subscript (.Name x px) k sp) "append" pm) [a] [] pc) pos) (tS L lv (.app2 fz i mk ma) W) := by
  obtain ⟨p1, p2⟩ := loc_of yo.x hi
  have hes : cEs (n + 1) se [a] = some (.cons ma .nil) := by
    unfold cEs
    rw [ha]
    cases n <;> rfl
  obtain ⟨s1, s2⟩ := args_star hes X.env pc
  refine PS.imp (ps_expr (pe_bm PySem.F.plainAttrs_list PySem.F.slot_list_append PySem.F.type_list_append mt_append (pe_ix ix_seq (pe_var p1 p2 (sNe h1) (sNe h2)) ik (plain_ix hk)) (pa_cons ia pa_nil s1) rfl (few hes rfl _ _) hl s1 s2) rfl) fun D σ H ⟨F, e, S, R, o⟩ => ?_
  obtain ⟨S', _, R'⟩ := R.frz fz
  rw [execS] at o
  split at o
  · rename_i dss hz
    obtain ⟨w, e1, c, bs, rfl, hc, hz2, hin, nd, na, hn, hf⟩ := R'.sl i _ hz
    refine ⟨_, e1, in_tE R' o fun sy y H1 S1 g1 R1 r1 o1 => ?_⟩
    split at o1
    · rename_i j hj
      split at o1
      · rename_i p hp
        split at o1
        · rename_i ds hds
          have hc1 := g1.h _ _ hc
          have hin1 := hin.mono g1
          obtain ⟨b, xs, hb, hbx, hbz, hbr⟩ := hin1.get hds
          have ey := int_of R1.sub r1 hj
          have el := hin.len
          refine .inl ⟨c, bs.map V.ref, j, .ref b, rfl, ey, .inl (.inl hc1), ?_, ?_⟩
          · unfold atI
            rw [List.length_map, el, hp]
            show (bs.map V.ref)[p]? = _
            rw [List.getElem?_map, hb]
            rfl
          refine ⟨.inl ⟨rfl, xs, .inl (.inl hbx)⟩, in_tE R1 o1 fun sx v H2 S2 g2 R2 r2 o2 => ?_⟩
          split at o2
          · rename_i d hs
            split at o2
            · rename_i hlt
              obtain ⟨S3, g3, s3, rd⟩ := RepV.share2 g2 r2 hs
              have R3 := R1.mono g3
              have hc3 := g3.h _ _ hc1
              have hb3 := g3.h _ _ hbx
              have hr3 := hbr.mono g3.s
              have e5 := hr3.len
              refine ⟨b, xs, v, rfl, rfl, hb3, by rw [← lim]; omega, ?_⟩
              exact o2 σ _ S3 (R3.write2 hz e1 hc3 hb (by rw [List.length_append]; simp; omega) (hr3.append (.cons rd .nil)))
            · exact o2.elim
          · exact o2.elim
        · exact o1.elim
      · exact o1.elim
    · exact o1.elim
  · exact o.elim
/-! ### x = [[] for .. in range(..)] -/
theorem InnL.low {G : Gx} {H0 H1 H S : Hp} (h : ∀ b, H1 b = none → H0 b = none) : ∀ {bs : List Addr} {dss : List (List Dv)}, InnL G H1 H S bs dss → InnL G H0 H S bs dss
  | [], [], _ => trivial
  | b :: bs, ds :: dss, ⟨⟨xs, k, z, q, n, f⟩, t⟩ => ⟨⟨xs, k, z, q, n, h b f⟩, InnL.low h t⟩
  | [], _ :: _, h => h.elim
  | _ :: _, [], h => h.elim
theorem InnL.snoc {G : Gx} {H0 H S : Hp} {b : Addr} {ds : List Dv} {xs : List V} (h : H b = some (.lst xs)) (z : xs.length ≤ LIM) (q : RepL G S xs ds) (n : S b = none) (f : H0 b = none) : ∀ {bs : List Addr} {dss : List (List Dv)}, InnL G H0 H S bs dss → InnL G H0 H S (bs ++ [b]) (dss ++ [ds])
  | [], [], _ => ⟨⟨xs, h, z, q, n, f⟩, trivial⟩
  | c :: bs, es :: dss, ⟨k, t⟩ => ⟨k, t.snoc h z q n f⟩
  | [], _ :: _, h => h.elim
  | _ :: _, [], h => h.elim
theorem new_read {fz own : List Nat} {i k : Nat} {f : Bool} {ma : Ex} {D : Ends} {σ : L2.St} {H : Hp} (ti : tgIn own (.nm k f) = true) (h : tS L lv (.new2 fz i own (.nm k f) ma) W D σ H) :
    tAsg (tLc (tI L lv false (.rng1 ma) W) (gT L.G.K (.nm k f)) (tC1 L lv .non WNo) (tE L lv (.lst .nil) WNo) own) (gName i) D σ H := by
  obtain ⟨F, e0, S0, R0, o⟩ := h
  obtain ⟨S, _, R⟩ := R0.frz fz
  rw [execS] at o
  generalize frz fz e0 = e at R o
  show tLc _ _ _ _ _ σ H _
  refine ⟨F, e, S, R, ?_⟩
  rw [evalS]
  cases he : evalE (clI L.pg lv) ma e with
  | no => rw [he] at o; exact o.elim
  | ex C t =>
    rw [he] at o
    exact fun H1 S1 g => o σ H1 S1 (R.mono g)
  | ok sx =>
    rw [he] at o
    have o : OutR L F W D (match sx.toD with
      | .int j => if rOk j ∧ j.toNat ≤ LIM then .nx (e.set i (some (.l2 (List.replicate j.toNat [])))) else .no
      | _ => .no) := o
    show OutI L false W σ H S (match sx.toD with
      | .int j => if rOk j ∧ j.toNat ≤ LIM then Rs.ok (rngI 0 j) else .no
      | _ => .no) _
    split at o
    · rename_i j hj
      split at o
      · rename_i hr
        rw [if_pos hr]
        intro J H1 S1 g1 wk hl D0 hD
        have sD := g1.sub.none hD
        have hn : (rngI 0 j).length = j.toNat := by rw [rngI_len, Int.sub_zero]
        refine ⟨fun n m H' => m = j.toNat - n ∧ ∃ S' bs, Grow H1 S1 H' S' ∧ H' D0 = some (.lst (bs.map V.ref)) ∧ S' D0 = none ∧ InnL L.G H1 H' S' bs (List.replicate n []) ∧ bs.Nodup ∧ D0 ∉ bs ∧ n ≤ j.toNat,
          ⟨_, rfl, S1, [], Grow.own g1.sub hD, upd_same, sD, trivial, List.nodup_nil, by simp, Nat.zero_le _⟩, ?_⟩
        intro n m H2 ⟨hm, S2, bs, g2, hD2, sD2, hin, nd, na, hle⟩
        have wki := wk H2 S2 n (by simpa using g2.h) g2.s g2.sub
        have lb := hin.len
        rw [List.length_replicate] at lb
        by_cases hi : j.toNat ≤ n
        · refine .inl ⟨wki.2 (by rw [hn]; exact hi), ?_⟩
          have en : n = j.toNat := by omega
          subst en
          have low : ∀ b, H1 b = none → F.H0 b = none := fun b hb => by
            cases q : F.H0 b with
            | none => rfl
            | some u => exact absurd (g1.h.none hb) (R.keep b (by rw [q]; simp))
          refine o _ H2 S2 ((R.mono (g1.trans g2)).put (sv := .l2 (List.replicate j.toNat [])) ⟨D0, bs, rfl, hD2, by rw [lb]; exact hr.2, hin.low low, nd, na, sD2, low D0 hD⟩ fun b hb q sw w hq k1 k2 k3 => ?_)
          have fresh : H1 b = none := by
            rcases hb with rfl | ⟨cs, ec, hc⟩
            · exact hD
            · rw [hD2] at ec
              injection ec with ec
              injection ec with ec
              rw [← ref_inj ec] at hc
              exact (hin.at hc).2.2
          obtain ⟨w', z1, z2⟩ := R.sl q sw k1
          rw [k2] at z1
          cases z1
          obtain ⟨⟨u, hu⟩, _⟩ := own_there z2 (ownA_sub (g1.trans g2).h z2 k3)
          rw [g1.h.none fresh] at hu
          cases hu
        · have hi2 : n < j.toNat := by omega
          obtain ⟨d, hd⟩ : ∃ d, (rngI 0 j)[n]? = some d := ⟨_, List.getElem?_eq_getElem (by rw [hn]; exact hi2)⟩
          obtain ⟨jg, jy⟩ := wki.1 d hd
          refine .inr ⟨jg, fun H' => ∃ S' bs, Grow H1 S1 H' S' ∧ H' D0 = some (.lst (bs.map V.ref)) ∧ S' D0 = none ∧ InnL L.G H1 H' S' bs (List.replicate (n + 1) []) ∧ bs.Nodup ∧ D0 ∉ bs ∧ n + 1 ≤ j.toNat,
            fun H' ⟨S', q⟩ => ⟨j.toNat - (n + 1), by omega, rfl, S', q⟩, fun x H3 y => ?_⟩
          obtain ⟨S3, g3, r3⟩ := jy x H3 y
          have g13 := g2.trans g3
          have hD3 := g3.h _ _ hD2
          have sD3 := g3.none hD2 sD2
          have R3 : Rel L.G F (wipeE own e) (wipe σ own) H3 S3 := (R.mono (g1.trans g13)).wipe own
          refine tg_ok (G := L.G) (e1 := (wipeE own e).set k (some (.sh d))) R3 .refl ti r3 rfl fun σ2 R4 sm => ⟨?_, F, _, S3, R4, ?_⟩
          · rw [wipe_same sm, wipe_wipe]
          · rw [evalC]
            intro H5 S5 g5
            have R5 := R4.mono g5
            have hD5 := g5.h _ _ hD3
            have sD5 := g5.none hD3 sD3
            rw [if_pos rfl]
            refine ⟨F, _, S5, R5, ?_⟩
            rw [evalE, evalEs]
            intro v H6 S6 g6 r6
            obtain ⟨b, xs, rfl, hb, hz, hrl, sb, hb5⟩ := r6
            have hD6 := g6.h _ _ hD5
            have sD6 := g6.none hD5 sD5
            have g16 := (g13.trans g5).trans g6
            have bD : b ≠ D0 := fun e => by rw [e, hD5] at hb5; cases hb5
            have hb1 : H1 b = none := (g13.trans g5).h.none hb5
            have nb : b ∉ bs := fun hm2 => by
              obtain ⟨⟨ys, hy⟩, _⟩ := hin.at hm2
              rw [(g3.trans g5).h _ _ hy] at hb5
              cases hb5
            have hin6 := ((hin.mono g3).mono g5).mono g6
            have lb2 : bs.length = n := lb
            refine ⟨bs.map V.ref, hD6, by rw [List.length_map, ← lim]; omega, S6, bs ++ [b], ⟨fun a u q => ?_, g16.s, fun a u q => ?_, g16.new⟩, by rw [upd_same, List.map_append]; rfl, sD6, ?_, ?_, ?_, hi2⟩
            · have ne : a ≠ D0 := ne_of_none q hD
              rw [upd_ne ne]
              exact g16.h _ _ q
            · have ne : a ≠ D0 := ne_of_none q sD6
              rw [upd_ne ne]
              exact g6.sub _ _ q
            · rw [List.replicate_succ']
              refine InnL.snoc (by rw [upd_ne bD]; exact hb) hz hrl sb hb1 (hin6.agree (.refl S6) fun c hc => ⟨upd_ne fun e => na (e ▸ hc), rfl⟩)
            · exact List.nodup_append.mpr ⟨nd, by simp, fun a ha c hc e => by rw [List.mem_singleton.mp hc] at e; rw [e] at ha; exact nb ha⟩
            · intro hm2
              rcases List.mem_append.mp hm2 with hm2 | hm2
              · exact na hm2
              · exact bD (List.mem_singleton.mp hm2).symm
      · exact o.elim
    · exact o.elim
theorem s_new2 (co : CallsOk L lv) (yo : YOk L lv se X) (tk : Takes X W) {n : Nat} {fz : List Nat} {x : Str} {i k : Nat} {f : Bool} {own : List Nat} {a : Ex} {lp : Pos} {gs : List Comprehension} {scope : Scope} {px cp pos : Pos} (hi : stoOf se x = some i) (hv : cE n se (.ListComp (.List [] lp) gs scope cp) = some (.comp own (.nm k f) (.rng1 a) .non (.lst .nil))) (hl : lcOk se x px (.ListComp (.List [] lp) gs scope cp) = true) :
    PS X (.Assign [.Name x px] (.ListComp (.List [] lp) gs scope cp) pos) (tS L lv (.new2 fz i own (.nm k f) a) W) := by
  obtain ⟨j, tg, iter, ifs, own', s, t, c, y, rfl, rfl, hb, hs, ht, hc, hx, ti, e⟩ := comp_parts hv
  cases e
  have I := snd_all co j
  have xo := yo.x
  obtain ⟨a1, b, _⟩ := yo.stores x i hi
  unfold lcOk at hl
  obtain ⟨h1, h2⟩ := and_t hl
  obtain ⟨h3, h4⟩ := and_t h1
  have hyl : X.env.scope.names.lookup x = some .local := by
    rw [xo.sc, ← lkS_eq]
    split at h3
    · assumption
    · cases h3
  have ha : (scope.names.any fun (n, k) => n == x && (k == .local || k == .cell)) = false := by
    have e : (fun (p : Str × NameKind) => match p with
      | (n, k) => n == x && (k == NameKind.local || k == NameKind.cell)) = fun (p : Str × NameKind) => match p with
      | (n, k) => sEq n x && (k == NameKind.local || k == NameKind.cell) := by
      funext ⟨n, k⟩
      show (n == x && _) = (sEq n x && _)
      rw [sEq_beq]
    show scope.names.any (fun (p : Str × NameKind) => match p with
      | (n, k) => n == x && (k == .local || k == .cell)) = false
    rw [e]
    simpa using h2
  obtain ⟨i1, i2⟩ := I.src tg false rfl xo tk hs
  refine PS.imp (ps_setLc xo.calm xo.nd a1 hyl (sw_true yo.kind hyl (by rw [beq_iff_eq]; exact Nat.eq_of_beq_eq_true h4) ha) i1 (own_eq hb xo) (fun s H C cl fp => ?_) (fun s H C cl fp => I.ifs (xo_blk xo s H scope C cl fp) takes_no hc) (fun s H C cl fp => (I.e (xo_blk xo s H scope C cl fp) takes_no hx).1) (i2 X.env)) fun D σ H h => new_read (W := W) ti h
  have := pg_of (X := X.blk s H scope (compEnvC scope cl C X.env) fp) xo.calm xo.nd (stores_blk xo s H scope C cl fp) ht
  rw [show (X.blk s H scope (compEnvC scope cl C X.env) fp).K = L.G.K from xo.K] at this
  exact this
end
end Dg

/-! The evaluator is sound: expressions that take from a list of the frame. -/
namespace Dg
open PySem PySem.Spec L2
section
variable {L : Lk} {lv : Nat} {se : SE} {X : Cx} {W : WX}
/-! ### a list of the frame is changed by somebody -/
theorem Rel.writeM {G : Gx} {F : Fm} {e : Env} {σ : L2.St} {H S : Hp} (R : Rel G F e σ H S) {i : Nat} {ds ds' : List Dv} {a : Addr} {ys : List V} (h : slot e i = some (.m1 ds)) (hv : σ[i]? = some (some (.ref a))) (hz : ys.length ≤ LIM) (hr : RepL G S ys ds') :
    Rel G F (e.set i (some (.m1 ds'))) σ (upd H a (.lst ys)) S := by
  obtain ⟨v, hv2, a2, xs, rfl, ha, _, _, hn, hf⟩ := R.sl i _ h
  rw [hv] at hv2
  cases hv2
  exact R.change h hv (fun b hb => upd_ne hb) (fun b hb => by obtain rfl : b = a := hb; rw [upd_same]; simp) ⟨a, ys, rfl, upd_same, hz, hr, hn, hf⟩ fun b hb => hb
theorem takeM_at {G : Gx} {F : Fm} {e : Env} {σ : L2.St} {H S : Hp} (R : Rel G F e σ H S) {i : Nat} {ds : List Dv} (h : takeM e i = some ds) : ∃ a xs, σ[i]? = some (some (.ref a)) ∧ H a = some (.lst xs) ∧ xs.length ≤ LIM ∧ RepL G S xs ds ∧ S a = none := by
  unfold takeM at h
  split at h
  · rename_i z hz
    cases h
    obtain ⟨v, hv, a, xs, rfl, ha, hl, hr, hn, _⟩ := R.sl i _ hz
    exact ⟨a, xs, hv, ha, hl, hr, hn⟩
  · rename_i z hz
    cases h
    obtain ⟨v, hv, a, xs, rfl, ha, hl, hr, hn, _⟩ := R.sl i _ hz
    exact ⟨a, xs, hv, ha, hl, hr, hn⟩
  · cases h
theorem Rel.putM {G : Gx} {F : Fm} {e : Env} {σ : L2.St} {H S : Hp} (R : Rel G F e σ H S) {i : Nat} {ds ds' : List Dv} {a : Addr} {ys : List V} (h : takeM e i = some ds) (hv : σ[i]? = some (some (.ref a))) (hz : ys.length ≤ LIM) (hr : RepL G S ys ds') :
    Rel G F (Dg.putM e i ds') σ (upd H a (.lst ys)) S := by
  unfold takeM at h
  unfold Dg.putM
  split at h
  · rename_i z hz2
    rw [hz2]
    exact R.write hz2 hv hz hr
  · rename_i z hz2
    rw [hz2]
    exact R.writeM hz2 hv hz hr
  · cases h
theorem Rel.effect {G : Gx} {F : Fm} {e : Env} {σ : L2.St} {H S H' S' : Hp} (R : Rel G F e σ H S) {i : Nat} {ds ds' : List Dv} {a : Addr} {xs ys : List V} (h : takeM e i = some ds) (hv : σ[i]? = some (some (.ref a))) (h0 : H a = some (.lst xs)) (g : GrowM a H S H' S') (hs : S' a = none)
    (ha : H' a = some (.lst ys)) (hz : ys.length ≤ LIM) (hr : RepL G S' ys ds') : Rel G F (Dg.putM e i ds') σ H' S' := by
  have g1 : Grow H S (fun b => if b = a then H a else H' b) S' := by
    refine ⟨fun b o q => ?_, g.s, fun b o q => ?_, g.new⟩
    · by_cases hb : b = a
      · subst hb; show (if b = b then H b else H' b) = _; rw [if_pos rfl]; exact q
      · show (if b = a then H a else H' b) = _; rw [if_neg hb]; exact g.h b o hb q
    · by_cases hb : b = a
      · subst hb; rw [hs] at q; cases q
      · show (if b = a then H a else H' b) = _; rw [if_neg hb]; exact g.sub _ _ q
  have e1 : H' = upd (fun b => if b = a then H a else H' b) a (.lst ys) := by
    funext b
    by_cases hb : b = a
    · subst hb; rw [upd_same]; exact ha
    · rw [upd_ne hb, if_neg hb]
  rw [e1]
  exact (R.mono g1).putM h hv hz hr
/-! ### readings -/
def OutF (L : Lk) (F : Fm) (σ : L2.St) (S : Hp) (r : Rs (Dv × Env)) (Q : VK) : Prop := match r with
  | .ok (d, e) => ∀ v H' S', Rel L.G F e σ H' S' → Sub S S' → RepS L.G S' v d → Q v H'
  | _ => False
def OutFs (L : Lk) (F : Fm) (σ : L2.St) (S : Hp) (r : Rs (List Dv × Env)) (Q : List V → Hp → Prop) : Prop := match r with
  | .ok (ds, e) => ∀ vs H' S', Rel L.G F e σ H' S' → Sub S S' → RepL L.G S' vs ds → Q vs H'
  | _ => False
def tF (L : Lk) (lv : Nat) (m : Fx) : TE := fun σ H Q => ∃ F e S, Rel L.G F e σ H S ∧ OutF L F σ S (evalF (clI L.pg lv) m e) Q
def tFs (L : Lk) (lv : Nat) (m : Fxs) : TA := fun σ H Q => ∃ F e S, Rel L.G F e σ H S ∧ OutFs L F σ S (evalFs (clI L.pg lv) m e) Q
theorem OutF.sub {F : Fm} {σ : L2.St} {S S1 : Hp} {r : Rs (Dv × Env)} {Q : VK} (s : Sub S S1) (h : OutF L F σ S r Q) : OutF L F σ S1 r Q := by
  cases r with
  | ok a => exact fun v H' S' R t q => h v H' S' R (s.trans t) q
  | ex C t => exact h
  | no => exact h
theorem OutFs.sub {F : Fm} {σ : L2.St} {S S1 : Hp} {r : Rs (List Dv × Env)} {Q : List V → Hp → Prop} (s : Sub S S1) (h : OutFs L F σ S r Q) : OutFs L F σ S1 r Q := by
  cases r with
  | ok a => exact fun v H' S' R t q => h v H' S' R (s.trans t) q
  | ex C t => exact h
  | no => exact h
/-- one part, then what is made of it -/
theorem tF.bind {m : Fx} {σ : L2.St} {H S : Hp} {F : Fm} {e : Env} (R : Rel L.G F e σ H S) {Q : VK} {β : Type} {P : Rs β → Prop} {k : Dv × Env → Rs β}
    (pex : ∀ C t, ¬ P (.ex C t)) (pno : ¬ P .no) (h : P ((evalF (clI L.pg lv) m e).bind k)) (hok : ∀ d e1 v H1 S1, Rel L.G F e1 σ H1 S1 → Sub S S1 → RepS L.G S1 v d → P (k (d, e1)) → Q v H1) : tF L lv m σ H Q := by
  refine ⟨F, e, S, R, ?_⟩
  cases q : evalF (clI L.pg lv) m e with
  | ok a =>
    rw [q] at h
    exact fun v H1 S1 R1 s r => hok a.1 a.2 v H1 S1 R1 s r h
  | ex C t => rw [q] at h; exact pex C t h
  | no => rw [q] at h; exact pno h
theorem tFs.bind {m : Fxs} {σ : L2.St} {H S : Hp} {F : Fm} {e : Env} (R : Rel L.G F e σ H S) {Q : List V → Hp → Prop} {β : Type} {P : Rs β → Prop} {k : List Dv × Env → Rs β}
    (pex : ∀ C t, ¬ P (.ex C t)) (pno : ¬ P .no) (h : P ((evalFs (clI L.pg lv) m e).bind k)) (hok : ∀ ds e1 vs H1 S1, evalFs (clI L.pg lv) m e = .ok (ds, e1) → Rel L.G F e1 σ H1 S1 → Sub S S1 → RepL L.G S1 vs ds → P (k (ds, e1)) → Q vs H1) : tFs L lv m σ H Q := by
  refine ⟨F, e, S, R, ?_⟩
  cases q : evalFs (clI L.pg lv) m e with
  | ok a =>
    rw [q] at h
    exact fun v H1 S1 R1 s r => hok a.1 a.2 v H1 S1 q R1 s r h
  | ex C t => rw [q] at h; exact pex C t h
  | no => rw [q] at h; exact pno h
theorem outF_ex {F : Fm} {σ : L2.St} {S : Hp} {Q : VK} : ∀ C t, ¬ OutF L F σ S (.ex C t) Q := fun _ _ h => h
theorem outF_no {F : Fm} {σ : L2.St} {S : Hp} {Q : VK} : ¬ OutF L F σ S .no Q := fun h => h
theorem outFs_ex {F : Fm} {σ : L2.St} {S : Hp} {Q : List V → Hp → Prop} : ∀ C t, ¬ OutFs L F σ S (.ex C t) Q := fun _ _ h => h
theorem outFs_no {F : Fm} {σ : L2.St} {S : Hp} {Q : List V → Hp → Prop} : ¬ OutFs L F σ S .no Q := fun h => h
/-- what is shared at once -/
theorem out_shared {F : Fm} {e : Env} {σ : L2.St} {H S S0 : Hp} {r : Rs Sv} {Q : VK} (R : Rel L.G F e σ H S) (s0 : Sub S0 S) (h : OutF L F σ S0 (sharedR r e) Q) : Out L.G W σ H S r Q := by
  cases r with
  | ok sv =>
    intro v H' S' g rv
    cases hs : sv.share with
    | none =>
      have h : OutF L F σ S0 (match sv.share with
        | some d => .ok (d, e)
        | none => .no) Q := h
      rw [hs] at h
      exact h.elim
    | some d =>
      have h : OutF L F σ S0 (match sv.share with
        | some d => .ok (d, e)
        | none => .no) Q := h
      rw [hs] at h
      obtain ⟨S2, g2, _, q⟩ := RepV.share2 g rv hs
      exact h v H' S2 (R.mono g2) (s0.trans g2.s) q
  | ex C t => exact h.elim
  | no => exact h.elim
theorem f_pu {e : Expr} {m : Ex} (ie : PE X e (tE L lv m W)) : PE X e (tF L lv (.pu m)) := by
  refine PE.imp ie fun σ H Q ⟨F, e, S, R, o⟩ => ?_
  rw [evalF] at o
  exact ⟨F, e, S, R, out_shared R (.refl S) o⟩
theorem f_pop (xo : XOk L lv se X) {j : Nat} {y : Str} {py pm pc : Pos} (hi : locOf se y = some j) (h1 : sEq y "__debug__" = false) (h2 : sEq y "__classdict__" = false) (hl : (pm.endLine == pc.line) = true) :
    PE X (.Call (.Attribute (.Name y py) "pop" pm) [] [] pc) (tF L lv (.pop j)) := by
  obtain ⟨p1, p2⟩ := loc_of xo hi
  refine PE.imp (pe_bm0 PySem.F.plainAttrs_list PySem.F.slot_list_pop PySem.F.type_list_pop mt_pop (pe_var p1 p2 (sNe h1) (sNe h2)) rfl hl) fun σ H Q ⟨F, e, S, R, o⟩ => ?_
  rw [evalF] at o
  cases ht : takeM e j with
  | none => rw [ht] at o; exact o.elim
  | some ds =>
    rw [ht] at o
    obtain ⟨a, xs, e1, ha, hz, hr, hn⟩ := takeM_at R ht
    have o : OutF L F σ S (match popI ds none with
      | some (d, ys) => .ok (d, Dg.putM e j ys)
      | none => .no) Q := o
    unfold popI at o
    have e4 := hr.len
    cases hg : ds[ds.length - 1]? with
    | none => rw [hg] at o; exact o.elim
    | some d =>
      rw [hg] at o
      obtain ⟨u, hu, ru⟩ := hr.get hg
      refine ⟨_, e1, .inl ⟨rfl, xs, .inl (.inl ha)⟩, a, xs, u, rfl, rfl, ha, by rw [e4]; exact hu, ?_⟩
      exact o _ _ S (R.putM ht e1 (by rw [List.length_dropLast]; omega) hr.dropLast) (.refl S) ru
theorem f_bin (xo : XOk L lv se X) {a b : Expr} {ma mb : Fx} {op : Operator} {pos : Pos} (ia : PE X a (tF L lv ma)) (ib : PE X b (tF L lv mb)) : PE X (.BinOp a op b pos) (tF L lv (.bin op ma mb)) := by
  refine PE.imp (pe_op (op_bin op) ia ib) fun σ H Q ⟨F, e, S, R, o⟩ => ?_
  rw [xo.K]
  rw [evalF] at o
  refine tF.bind R (P := fun r => OutF L F σ S r Q) outF_ex outF_no o fun d e1 v H1 S1 R1 s1 r1 o1 => ?_
  refine tF.bind R1 (P := fun r => OutF L F σ S r Q) outF_ex outF_no o1 fun d2 e2 u H2 S2 R2 s2 r2 o2 => ?_
  exact bin_ok (W := fun _ _ _ _ => False) R2.sub ((r1.mono s2).b R2.sub) (r2.b R2.sub) (out_shared (W := fun _ _ _ _ => False) R2 (s1.trans s2) o2)
theorem f_cmpR (xo : XOk L lv se X) {ma mb : Fx} {op : CmpOp} {σ : L2.St} {H : Hp} {Q : VK} (h : tF L lv (.cmp op ma mb) σ H Q) : tOp (rCmp X.K op) (tF L lv ma) (tF L lv mb) σ H Q := by
  obtain ⟨F, e, S, R, o⟩ := h
  rw [xo.K]
  rw [evalF] at o
  refine tF.bind R (P := fun r => OutF L F σ S r Q) outF_ex outF_no o fun d e1 v H1 S1 R1 s1 r1 o1 => ?_
  refine tF.bind R1 (P := fun r => OutF L F σ S r Q) outF_ex outF_no o1 fun d2 e2 u H2 S2 R2 s2 r2 o2 => ?_
  refine cmp_ok (W := fun _ _ _ _ => False) (σ := σ) R2.sub ((r1.mono s2).b R2.sub) (r2.b R2.sub) ?_
  have o2 : OutF L F σ S ((cmpop op d d2).bind fun k => .ok (.bl k, e2)) Q := o2
  cases q : cmpop op d d2 with
  | ok k =>
    rw [q] at o2
    exact o2 _ _ S2 R2 (s1.trans s2) (.bl k)
  | ex C t => rw [q] at o2; exact o2.elim
  | no => rw [q] at o2; exact o2.elim
theorem f_cmp (xo : XOk L lv se X) {a b : Expr} {ma mb : Fx} {op : CmpOp} {pos : Pos} (hb : behindInMarks op b = false) (ia : PE X a (tF L lv ma)) (ib : PE X b (tF L lv mb)) : PE X (.Compare a [op] [b] pos) (tF L lv (.cmp op ma mb)) :=
  PE.imp (pe_cmpR (op_cmp (by have := hu_X xo; omega) op) ia ib hb) fun σ H Q h => f_cmpR xo h
/-- a test -/
def tFT (L : Lk) (lv : Nat) (m : Fx) : TT := fun σ H Q => tF L lv m σ H fun v H1 => ∃ b, v = .bl b ∧ Q b H1
theorem ft_cmp (xo : XOk L lv se X) {a b : Expr} {ma mb : Fx} {op : CmpOp} {pos : Pos} (hb : behindInMarks op b = false) (ia : PE X a (tF L lv ma)) (ib : PE X b (tF L lv mb)) : PT X (.Compare a [op] [b] pos) (tFT L lv (.cmp op ma mb)) :=
  PT.imp (pt_cmpR (op_cmp (by have := hu_X xo; omega) op) ia ib hb) fun σ H Q h => f_cmpR xo h
theorem f_idx (xo : XOk L lv se X) {a b : Expr} {ma mb : Fx} {pos : Pos} (hb : PlainIx b) (ia : PE X a (tF L lv ma)) (ib : PE X b (tF L lv mb)) : PE X (.Subscript a b pos) (tF L lv (.idx ma mb)) := by
  refine PE.imp (pe_ix ix_seq ia ib hb) fun σ H Q ⟨F, e, S, R, o⟩ => ?_
  rw [xo.K]
  rw [evalF] at o
  refine tF.bind R (P := fun r => OutF L F σ S r Q) outF_ex outF_no o fun d e1 v H1 S1 R1 s1 r1 o1 => ?_
  refine tF.bind R1 (P := fun r => OutF L F σ S r Q) outF_ex outF_no o1 fun d2 e2 u H2 S2 R2 s2 r2 o2 => ?_
  have o2 : OutF L F σ S ((index d d2).bind fun k => .ok (k, e2)) Q := o2
  cases q : index d d2 with
  | ok k =>
    rw [q] at o2
    exact ix_ok R2.sub ((r1.mono s2).b R2.sub) (r2.b R2.sub) q fun w rw' => o2 _ _ S2 R2 (s1.trans s2) rw'
  | ex C t => rw [q] at o2; exact o2.elim
  | no => rw [q] at o2; exact o2.elim
theorem f_slh (xo : XOk L lv se X) {a b : Expr} {ma mb : Fx} {p2 pos : Pos} (ia : PE X a (tF L lv ma)) (ib : PE X b (tF L lv mb)) : PE X (.Subscript a (.Slice none (some b) none p2) pos) (tF L lv (.slh ma mb)) := by
  refine PE.imp (pe_slice sl_X ia po_none (po_some ib)) fun σ H Q ⟨F, e, S, R, o⟩ => ?_
  rw [xo.K]
  rw [evalF] at o
  refine tF.bind R (P := fun r => OutF L F σ S r Q) outF_ex outF_no o fun d e1 v H1 S1 R1 s1 r1 o1 => ?_
  refine tF.bind R1 (P := fun r => OutF L F σ S r Q) outF_ex outF_no o1 fun d2 e2 u H2 S2 R2 s2 r2 o2 => ?_
  cases d2 with
  | int i =>
    cases r2
    exact ⟨i, rfl, sl_ok (W := fun _ _ _ _ => False) R2.sub ((r1.mono s2).b R2.sub) (out_shared (W := fun _ _ _ _ => False) R2 (s1.trans s2) o2)⟩
  | _ => exact o2.elim
/-! ### arguments, displays -/
theorem fs_nil : PA X [] (tFs L lv .nil) := PA.imp pa_nil fun σ H Q ⟨F, e, S, R, o⟩ => by
  rw [evalFs] at o
  exact o [] H S R (.refl S) .nil
theorem fs_cons {a : Expr} {r : List Expr} {ma : Fx} {mr : Fxs} (hs : starEach (a :: r) X.env = (false, eval a X.env) :: starEach r X.env) (ia : PE X a (tF L lv ma)) (ir : PA X r (tFs L lv mr)) : PA X (a :: r) (tFs L lv (.cons ma mr)) := by
  refine PA.imp (pa_cons ia ir hs) fun σ H Q ⟨F, e, S, R, o⟩ => ?_
  rw [evalFs] at o
  refine tF.bind R (P := fun r => OutFs L F σ S r Q) outFs_ex outFs_no o fun d e1 v H1 S1 R1 s1 r1 o1 => ?_
  refine tFs.bind R1 (P := fun r => OutFs L F σ S r Q) outFs_ex outFs_no o1 fun ds e2 vs H2 S2 _ R2 s2 r2 o2 => ?_
  exact o2 _ _ S2 R2 (s1.trans s2) (.cons (r1.mono s2) r2)
theorem Rs.bind_to {α β : Type} {x : Rs α} {f : α → Rs β} {b : β} (h : x.bind f = .ok b) : ∃ a, x = .ok a ∧ f a = .ok b := by
  cases x with
  | ok a => exact ⟨a, rfl, h⟩
  | ex C t => cases h
  | no => cases h
theorem fs_len {P : Pg} : ∀ {es : List Expr} {n : Nat} {ms : Fxs} {e : Env} {r : List Dv × Env}, cFs n se es = some ms → evalFs (clI P lv) ms e = .ok r → r.1.length = es.length
  | [], _, ms, e, r, h, q => by
    unfold cFs at h
    cases h
    rw [evalFs] at q
    cases q
    rfl
  | a :: l, 0, ms, e, r, h, q => by unfold cFs at h; cases h
  | a :: l, n + 1, ms, e, r, h, q => by
    unfold cFs at h
    cases h1 : cF n se a with
    | none => rw [h1] at h; cases h
    | some x =>
      cases h2 : cFs n se l with
      | none => rw [h1, h2] at h; cases h
      | some xs =>
        rw [h1, h2] at h
        cases h
        rw [evalFs] at q
        obtain ⟨a1, q1, q⟩ := Rs.bind_to q
        obtain ⟨a2, q2, q⟩ := Rs.bind_to q
        cases q
        rw [List.length_cons, List.length_cons, fs_len h2 q2]
theorem f_tup {n : Nat} {es : List Expr} {ms : Fxs} {k : Nat} {pos : Pos} (hes : cFs n se es = some ms) (hl : es.length ≤ 1000) (ia : PA X es (tFs L lv ms)) : PE X (.Tuple es k pos) (tF L lv (.tup ms)) := by
  refine PE.imp (pe_tup ia) fun σ H Q ⟨F, e, S, R, o⟩ => ?_
  rw [evalF] at o
  refine tFs.bind R (P := fun r => OutF L F σ S r Q) outF_ex outF_no o fun ds e1 vs H1 S1 q R1 s1 r1 o1 => ?_
  have hd : ds.length = es.length := fs_len hes q
  have e1 := r1.len
  refine ⟨by rw [← lim]; unfold LIM; omega, fun p hp => ?_⟩
  have n1 := R1.sub.none hp
  exact o1 _ _ _ (R1.mono (Grow.add R1.sub hp)) (s1.trans (.new n1)) (.tup (.inl (.inl upd_same)) (by unfold LIM; omega) (r1.mono (.new n1)))
theorem f_lst {n : Nat} {es : List Expr} {ms : Fxs} {pos : Pos} (hes : cFs n se es = some ms) (hl : es.length ≤ 1000) (ia : PA X es (tFs L lv ms)) : PE X (.List es pos) (tF L lv (.lst ms)) := by
  refine PE.imp (pe_lst ia) fun σ H Q ⟨F, e, S, R, o⟩ => ?_
  rw [evalF] at o
  refine tFs.bind R (P := fun r => OutF L F σ S r Q) outF_ex outF_no o fun ds e1 vs H1 S1 q R1 s1 r1 o1 => ?_
  have hd : ds.length = es.length := fs_len hes q
  have e1 := r1.len
  refine ⟨by rw [← lim]; unfold LIM; omega, fun p hp => ?_⟩
  have n1 := R1.sub.none hp
  exact o1 _ _ _ (R1.mono (Grow.add R1.sub hp)) (s1.trans (.new n1)) (.lst (.inl (.inl upd_same)) (by unfold LIM; omega) (r1.mono (.new n1)))
/-! ### calls -/
theorem f_call_read {f : Nat} {ms : Fxs} {σ : L2.St} {H : Hp} {Q : VK} (hlen : ∀ (ds : List Dv), callI L.pg lv f ds ≠ .no → ds.length = (L.psF f).length) (h : tF L lv (.call f ms) σ H Q) : tCallS (spF L lv f) (WE W) (tFs L lv ms) σ H Q := by
  obtain ⟨F, e, S, R, o⟩ := h
  rw [evalF] at o
  refine tFs.bind R (P := fun r => OutF L F σ S r Q) outF_ex outF_no o fun ds e1 vs H1 S1 _ R1 s1 r1 o1 => ?_
  have o1 : OutF L F σ S (sharedR (callI L.pg lv f ds) e1) Q := o1
  have e1 := r1.len
  have e2 := hlen ds fun q => by
    rw [q] at o1
    exact o1
  exact spF_of (W := W) (.refl R1.sub) r1 (by omega) (out_shared R1 s1 o1)
theorem f_call (tk : Takes X W) (co : CallsOk L lv) (xo : XOk L lv se X) {f : Nat} {x : Str} {p pos : Pos} {es : List Expr} {ms : Fxs} (hx : gloOf se x = some (.own (.fn f))) (hd : sEq x "__debug__" = false) (hst : ∀ e r, es = e :: r → starEach es X.env = (false, eval e X.env) :: starEach r X.env ∧ (backTo pos (starEach r X.env)).any (·.1) = false)
    (hnil : es = [] → ms = .nil) (ia : PA X es (tFs L lv ms)) : PE X (.Call (.Name x p) es [] pos) (tF L lv (.call f ms)) := by
  obtain ⟨gl, lk⟩ := glo_own xo hx
  obtain ⟨hm, hk, hb, hln, F⟩ := co.fn x f lk
  have hl : ∀ ds : List Dv, callI L.pg lv f ds ≠ .no → ds.length = (L.psF f).length := hln
  cases es with
  | nil =>
    cases hnil rfl
    refine PE.imp (pe_call0S (E := WE W) (fn_at xo F) (xo.room.mono (by omega)) gl (by rw [xo.mg]; exact hm) (by rw [xo.K]; exact hk) (by rw [xo.K]; exact hb) (passAt tk) (sNe hd)) fun σ H Q h => ?_
    obtain ⟨F', e', S', R', o'⟩ := f_call_read (W := W) hl h
    rw [evalFs] at o'
    exact o' [] H S' R' (.refl S') .nil
  | cons e es =>
    obtain ⟨s1, s2⟩ := hst e es rfl
    exact PE.imp (pe_callS (E := WE W) (fn_at xo F) (xo.room.mono (by omega)) gl (by rw [xo.mg]; exact hm) (by rw [xo.K]; exact hk) (by rw [xo.K]; exact hb) (passAt tk) ia (sNe hd) s1 s2) fun σ H Q h => f_call_read hl h
/-- arguments, the list that is lent at place k -/
def tMs (L : Lk) (lv k i : Nat) (m : Fxs) : TA := fun σ H Q => ∃ F e S, Rel L.G F e σ H S ∧ ∃ a, σ[i]? = some (some (.ref a)) ∧ match evalFs (clI L.pg lv) m e with
  | .ok (ds, e1) => k ≤ ds.length ∧ ∀ pre post H' S', pre.length = k → Rel L.G F e1 σ H' S' → Sub S S' → RepL L.G S' (pre ++ post) ds → Q (pre ++ .ref a :: post) H'
  | _ => False
theorem ms_zero (xo : XOk L lv se X) {y : Str} {py : Pos} {r : List Expr} {i : Nat} {mr : Fxs} (hi : locOf se y = some i) (h1 : sEq y "__debug__" = false) (h2 : sEq y "__classdict__" = false) (ir : PA X r (tFs L lv mr)) : PA X (.Name y py :: r) (tMs L lv 0 i mr) := by
  obtain ⟨p1, p2⟩ := loc_of xo hi
  refine PA.imp (pa_cons (pe_var p1 p2 (sNe h1) (sNe h2)) ir rfl) fun σ H Q ⟨F, e, S, R, a, ha, o⟩ => ?_
  refine ⟨_, ha, F, e, S, R, ?_⟩
  cases q : evalFs (clI L.pg lv) mr e with
  | ok z =>
    rw [q] at o
    exact fun vs H1 S1 R1 s1 r1 => o.2 [] vs H1 S1 rfl R1 s1 r1
  | ex C t => rw [q] at o; exact o
  | no => rw [q] at o; exact o
theorem ms_succ {k i : Nat} {a : Expr} {r : List Expr} {ma : Fx} {mr : Fxs} (hs : starEach (a :: r) X.env = (false, eval a X.env) :: starEach r X.env) (ia : PE X a (tF L lv ma)) (ir : PA X r (tMs L lv k i mr)) : PA X (a :: r) (tMs L lv (k + 1) i (.cons ma mr)) := by
  refine PA.imp (pa_cons ia ir hs) fun σ H Q ⟨F, e, S, R, b, hb, o⟩ => ?_
  rw [evalFs] at o
  refine ⟨F, e, S, R, ?_⟩
  cases q : evalF (clI L.pg lv) ma e with
  | ex C t => rw [q] at o; exact o.elim
  | no => rw [q] at o; exact o.elim
  | ok z =>
    obtain ⟨d, e1⟩ := z
    rw [q] at o
    intro v H1 S1 R1 s1 r1
    refine ⟨F, e1, S1, R1, b, hb, ?_⟩
    rw [Rs.bind_ok] at o
    cases q2 : evalFs (clI L.pg lv) mr e1 with
    | ex C t => rw [q2] at o; exact o.elim
    | no => rw [q2] at o; exact o.elim
    | ok z2 =>
      obtain ⟨ds, e2⟩ := z2
      rw [q2] at o
      obtain ⟨hk, o⟩ := o
      have hk : k + 1 ≤ (d :: ds).length := hk
      rw [List.length_cons] at hk
      refine ⟨by omega, fun pre post H' S' hp R2 s2 r2 => ?_⟩
      exact o (v :: pre) post H' S' (by rw [List.length_cons, hp]) R2 (s1.trans s2) (.cons (r1.mono s2) r2)
theorem putM_none {e : Env} {i j : Nat} {ys : List Dv} (z : takeM e i = none) (h : takeM e j ≠ none) : takeM (Dg.putM e j ys) i = none := by
  have hij : i ≠ j := fun w => h (w ▸ z)
  have key : ∀ sv : Sv, takeM (e.set j (some sv)) i = none := fun sv => by
    have : slot (e.set j (some sv)) i = slot e i := by
      cases h1 : slot (e.set j (some sv)) i with
      | none =>
        cases h2 : slot e i with
        | none => rfl
        | some sw =>
          rw [slot_get] at h2
          have : (e.set j (some sv))[i]? = some (some sw) := by rw [List.getElem?_set_ne (Ne.symm hij)]; exact h2
          rw [← slot_get] at this
          rw [this] at h1
          cases h1
      | some sw =>
        rcases slot_set h1 with ⟨w, _⟩ | ⟨_, w⟩
        · exact absurd w hij
        · exact w.symm
    unfold takeM at z ⊢
    rw [this]
    exact z
  unfold Dg.putM
  split
  · exact key _
  · exact key _
mutual
theorem keepF {i : Nat} : ∀ (m : Fx) (e : Env) (r : Dv × Env), evalF (clI L.pg lv) m e = .ok r → takeM e i = none → takeM r.2 i = none
  | .pu a, e, r, q, z => by
    rw [evalF] at q
    unfold sharedR at q
    split at q
    · split at q
      · cases q; exact z
      · cases q
    · cases q
  | .pop j, e, r, q, z => by
    rw [evalF] at q
    cases ht : takeM e j with
    | none => rw [ht] at q; cases q
    | some xs =>
      rw [ht] at q
      have q : (match popI xs none with
        | some (d, ys) => Rs.ok (d, Dg.putM e j ys)
        | none => .no) = .ok r := q
      split at q
      · cases q
        exact putM_none z (by rw [ht]; simp)
      · cases q
  | .bin op a b, e, r, q, z => by
    rw [evalF] at q
    obtain ⟨x, q1, q⟩ := Rs.bind_to q
    obtain ⟨y, q2, q⟩ := Rs.bind_to q
    have h2 := keepF b _ _ q2 (keepF a _ _ q1 z)
    unfold sharedR at q
    split at q
    · split at q
      · cases q; exact h2
      · cases q
    · cases q
  | .cmp op a b, e, r, q, z => by
    rw [evalF] at q
    obtain ⟨x, q1, q⟩ := Rs.bind_to q
    obtain ⟨y, q2, q⟩ := Rs.bind_to q
    obtain ⟨k, q3, q⟩ := Rs.bind_to q
    have h2 := keepF b _ _ q2 (keepF a _ _ q1 z)
    cases q
    exact h2
  | .tup es, e, r, q, z => by
    rw [evalF] at q
    obtain ⟨x, q1, q⟩ := Rs.bind_to q
    have h2 := keepFs es _ _ q1 z
    cases q
    exact h2
  | .lst es, e, r, q, z => by
    rw [evalF] at q
    obtain ⟨x, q1, q⟩ := Rs.bind_to q
    have h2 := keepFs es _ _ q1 z
    cases q
    exact h2
  | .idx a b, e, r, q, z => by
    rw [evalF] at q
    obtain ⟨x, q1, q⟩ := Rs.bind_to q
    obtain ⟨y, q2, q⟩ := Rs.bind_to q
    obtain ⟨k, q3, q⟩ := Rs.bind_to q
    have h2 := keepF b _ _ q2 (keepF a _ _ q1 z)
    cases q
    exact h2
  | .slh a b, e, r, q, z => by
    rw [evalF] at q
    obtain ⟨x, q1, q⟩ := Rs.bind_to q
    obtain ⟨y, q2, q⟩ := Rs.bind_to q
    have h2 := keepF b _ _ q2 (keepF a _ _ q1 z)
    split at q
    · unfold sharedR at q
      split at q
      · split at q
        · cases q; exact h2
        · cases q
      · cases q
    · cases q
  | .callM f k j es, e, r, q, z => by
    rw [evalF] at q
    obtain ⟨x, q1, q⟩ := Rs.bind_to q
    have h2 := keepFs es _ _ q1 z
    cases ht : takeM x.2 j with
    | none => rw [ht] at q; cases q
    | some xs =>
      rw [ht] at q
      obtain ⟨y, q2, q⟩ := Rs.bind_to q
      cases q
      exact putM_none h2 (by rw [ht]; simp)
  | .call f es, e, r, q, z => by
    rw [evalF] at q
    obtain ⟨x, q1, q⟩ := Rs.bind_to q
    have h2 := keepFs es _ _ q1 z
    unfold sharedR at q
    split at q
    · split at q
      · cases q; exact h2
      · cases q
    · cases q
theorem keepFs {i : Nat} : ∀ (m : Fxs) (e : Env) (r : List Dv × Env), evalFs (clI L.pg lv) m e = .ok r → takeM e i = none → takeM r.2 i = none
  | .nil, e, r, q, z => by
    rw [evalFs] at q
    cases q
    exact z
  | .cons a l, e, r, q, z => by
    rw [evalFs] at q
    obtain ⟨x, q1, q⟩ := Rs.bind_to q
    obtain ⟨y, q2, q⟩ := Rs.bind_to q
    have h2 := keepFs l _ _ q2 (keepF a _ _ q1 z)
    cases q
    exact h2
end
theorem f_callM_read {f k i : Nat} {ms : Fxs} {σ : L2.St} {H : Hp} {Q : VK} (hlen : ∀ ds xd r, callMI L.pg lv f k ds xd = .ok r → ds.length + 1 = (L.psF f).length ∧ k ≤ ds.length) (h : tF L lv (.callM f k i ms) σ H Q) : tCallS (spP L lv f k) (WE W) (tMs L lv k i ms) σ H Q := by
  obtain ⟨F, e, S, R, o⟩ := h
  rw [evalF] at o
  cases q : evalFs (clI L.pg lv) ms e with
  | ex C t => rw [q] at o; exact o.elim
  | no => rw [q] at o; exact o.elim
  | ok z =>
    obtain ⟨ds, e1⟩ := z
    rw [q, Rs.bind_ok] at o
    -- the list that is lent
    cases ht : takeM e1 i with
    | none =>
      have o : OutF L F σ S (match takeM e1 i with
        | some xs => (callMI L.pg lv f k ds xs).bind fun r => .ok (r.1, Dg.putM e1 i r.2)
        | none => .no) Q := o
      rw [ht] at o
      exact o.elim
    | some xd =>
      have o : OutF L F σ S (match takeM e1 i with
        | some xs => (callMI L.pg lv f k ds xs).bind fun r => .ok (r.1, Dg.putM e1 i r.2)
        | none => .no) Q := o
      rw [ht] at o
      cases qc : callMI L.pg lv f k ds xd with
      | ex C t =>
        have o : OutF L F σ S ((callMI L.pg lv f k ds xd).bind fun r => .ok (r.1, Dg.putM e1 i r.2)) Q := o
        rw [qc] at o
        exact o.elim
      | no =>
        have o : OutF L F σ S ((callMI L.pg lv f k ds xd).bind fun r => .ok (r.1, Dg.putM e1 i r.2)) Q := o
        rw [qc] at o
        exact o.elim
      | ok z =>
        obtain ⟨d, yd⟩ := z
        have o : OutF L F σ S ((callMI L.pg lv f k ds xd).bind fun r => .ok (r.1, Dg.putM e1 i r.2)) Q := o
        rw [qc] at o
        obtain ⟨hl, hk⟩ := hlen _ _ _ qc
        -- the slot's reference does not change
        have hsl : takeM e i ≠ none := by
          intro z
          exact absurd ht (by have h := keepFs ms e _ q z; have h : takeM e1 i = none := h; rw [h]; simp)
        cases ht0 : takeM e i with
        | none => exact absurd ht0 hsl
        | some x0 =>
          obtain ⟨a, _, ha, _⟩ := takeM_at R ht0
          refine ⟨F, e, S, R, a, ha, ?_⟩
          rw [q]
          refine ⟨hk, fun pre post H1 S1 hp R1 s1 r1 => ?_⟩
          obtain ⟨a2, xs, ha2, hx, hz, hr, hn⟩ := takeM_at R1 ht
          rw [ha] at ha2
          cases ha2
          have e5 := r1.len
          refine ⟨S1, pre, post, a, xs, ds, xd, rfl, hp, R1.sub, hn, hx, hz, r1, hr, ?_, ?_⟩
          · rw [List.length_append, List.length_cons]
            rw [List.length_append] at e5
            omega
          · rw [qc]
            intro v H' S' ys g hs hy hyl hyr rv
            exact o v H' S' (R1.effect ht ha hx g hs hy hyl hyr) (s1.trans g.s) rv
theorem f_callM (tk : Takes X W) (co : CallsOk L lv) (xo : XOk L lv se X) {f k i : Nat} {x : Str} {p pos : Pos} {e : Expr} {es : List Expr} {ms : Fxs} (hx : gloOf se x = some (.own (.fn f))) (hd : sEq x "__debug__" = false) (s1 : starEach (e :: es) X.env = (false, eval e X.env) :: starEach es X.env) (s2 : (backTo pos (starEach es X.env)).any (·.1) = false)
    (ia : PA X (e :: es) (tMs L lv k i ms)) : PE X (.Call (.Name x p) (e :: es) [] pos) (tF L lv (.callM f k i ms)) := by
  obtain ⟨gl, lk⟩ := glo_own xo hx
  obtain ⟨hm, hk, hb, hln, _⟩ := co.fn x f lk
  obtain ⟨hl, F⟩ := co.mfn x f k lk
  exact PE.imp (pe_callS (E := WE W) (fn_at xo F) (xo.room.mono (by omega)) gl (by rw [xo.mg]; exact hm) (by rw [xo.K]; exact hk) (by rw [xo.K]; exact hb) (passAt tk) ia (sNe hd) s1 s2) fun σ H Q h => f_callM_read hl h
end
end Dg

/-! The evaluator is sound: lists that are undone. -/
namespace Dg
open PySem PySem.Spec L2
section
variable {L : Lk} {lv : Nat} {se : SE} {X : Cx} {W : WX}
theorem PS.impL {X : Cx} {e : Stmt} {t t' : TS} (h : PS X e t') (i : ∀ D σ H, σ.length = X.N.length → t D σ H → t' D σ H) : PS X e t := ⟨fun pins s σ H D I q => h.run pins s σ H D I (i D σ H I.len q)⟩
/-! ### one block behind the other -/
theorem execs_app {M : Model} {Γ : PySem.Ctx} {env : PySem.Env} {E : Value → Pos → Shared → Prop} {Q : Flow → Pos → Shared → Prop} {b : List Stmt} : ∀ (a : List Stmt) (p : Pos) (s : Shared),
    Sem.wp M Γ (execs a env) (fun f p' s' => match f with
      | .next => Sem.wp M Γ (execs b env) Q E p' s'
      | f => Q f p' s') E p s → Sem.wp M Γ (execs (a ++ b) env) Q E p s
  | [], p, s, h => h
  | st :: a, p, s, h => by
    rw [execs_cons, Sem.wp_bind'] at h
    rw [List.cons_append, execs_cons, Sem.wp_bind']
    refine Sem.wp_mono M Γ _ (fun f p' s' h' => ?_) (fun _ _ _ h' => h') _ _ h
    cases f with
    | next => exact execs_app a p' s' h'
    | ret v => exact h'
    | brk => exact h'
    | cont => exact h'
theorem pss_app {a b : List Stmt} {t u : TS} (h1 : PSs X a t) (h2 : PSs X b u) : PSs X (a ++ b) (tSeq t u) := by
  refine ⟨fun pins s σ H D I h => ?_⟩
  have r := h1.run pins s σ H { D with nx := u D } I h
  intro Γ p hΓ
  refine execs_app a p s (Sem.wp_mono _ Γ _ (fun f p' s' q => ?_) (fun _ _ _ h' => h') _ _ (r Γ p hΓ))
  cases f with
  | next =>
    obtain ⟨σ', H', I', q⟩ := q
    exact h2.run pins s' σ' H' D I' q Γ p' hΓ
  | ret v => exact q
  | brk => exact q
  | cont => exact q
/-! ### parts -/
/-- a state in which lists are being undone -/
structure KSt (L : Lk) (S H2 : Hp) (w : Nat → Option Dv) (b : Bool) (σ : L2.St) (H : Hp) : Prop where
  sub : Sub S H2
  j : JK S H2 H
  ex : b = true → H = H2
  sl : ∀ i d, w i = some d → ∃ v, σ[i]? = some (some v) ∧ kRep L.G S d v
def tKp (L : Lk) (i : Nat) (p : List Nat) : TE := fun σ H Q => ∃ S H2 w b d, KSt L S H2 w b σ H ∧ atK b w i p = some d ∧ ∀ v, kRep L.G S d v → Q v H
theorem partK_app {b : Bool} {k : Nat} : ∀ (p : List Nat) (d d' : Dv), partK b (p ++ [k]) d = some d' → ∃ d1, partK b p d = some d1 ∧ partK b [k] d1 = some d'
  | [], d, d', h => ⟨d, rfl, h⟩
  | i :: p, .tup ds, d', h => by
    have h : (match ds[i]? with
      | some d => partK b (p ++ [k]) d
      | none => none) = some d' := h
    cases e : ds[i]? with
    | none => rw [e] at h; cases h
    | some d1 =>
      rw [e] at h
      obtain ⟨d2, h1, h2⟩ := partK_app p d1 d' h
      refine ⟨d2, ?_, h2⟩
      show (match ds[i]? with
        | some d => partK b p d
        | none => none) = some d2
      rw [e]
      exact h1
  | i :: p, .lst ds, d', h => by
    cases b with
    | false => cases h
    | true =>
      have h : (match ds[i]? with
        | some d => partK true (p ++ [k]) d
        | none => none) = some d' := h
      cases e : ds[i]? with
      | none => rw [e] at h; cases h
      | some d1 =>
        rw [e] at h
        obtain ⟨d2, h1, h2⟩ := partK_app p d1 d' h
        refine ⟨d2, ?_, h2⟩
        show (match ds[i]? with
          | some d => partK true p d
          | none => none) = some d2
        rw [e]
        exact h1
  | _ :: _, .non, _, h => by cases h
  | _ :: _, .bl _, _, h => by cases h
  | _ :: _, .int _, _, h => by cases h
  | _ :: _, .str _, _, h => by cases h
  | _ :: _, .dct _, _, h => by cases h
  | _ :: _, .obj _ _, _, h => by cases h
  | _ :: _, .exc _ _, _, h => by cases h
theorem atK_app {b : Bool} {w : Nat → Option Dv} {i k : Nat} {p : List Nat} {d : Dv} (h : atK b w i (p ++ [k]) = some d) : ∃ d1, atK b w i p = some d1 ∧ partK b [k] d1 = some d := by
  unfold atK at h ⊢
  split at h
  · exact partK_app p _ _ h
  · cases h
/-- one step -/
theorem kix {S H2 H : Hp} {w : Nat → Option Dv} {b : Bool} {σ : L2.St} {k : Nat} {d d1 : Dv} {v : V} {Q : VK} (K : KSt L S H2 w b σ H) (h : partK b [k] d1 = some d) (r : kRep L.G S d1 v) (q : ∀ v, kRep L.G S d v → Q v H) : rIx L.G.K v (.int (k : Int)) H Q := by
  cases d1 with
  | tup ds =>
    obtain ⟨a, xs, rfl, ha, hr⟩ := r
    have h : (match ds[k]? with
      | some d => partK b [] d
      | none => none) = some d := h
    cases e : ds[k]? with
    | none => rw [e] at h; cases h
    | some d1 =>
      rw [e] at h
      cases h
      obtain ⟨u, e1, ru⟩ := kReps_get hr e
      exact .inr (.inl ⟨_, _, _, _, rfl, rfl, K.j.sqT K.sub ha, atI_nat e1, q u ru⟩)
  | lst ds =>
    cases b with
    | false => cases h
    | true =>
      obtain ⟨a, xs, rfl, ha, hr⟩ := r
      have h : (match ds[k]? with
        | some d => partK true [] d
        | none => none) = some d := h
      cases e : ds[k]? with
      | none => rw [e] at h; cases h
      | some d1 =>
        rw [e] at h
        cases h
        obtain ⟨u, e1, ru⟩ := kReps_get hr e
        have hh := K.ex rfl
        subst hh
        exact .inl ⟨_, _, _, _, rfl, rfl, .inl (.inl (K.sub _ _ ha)), atI_nat e1, q u ru⟩
  | _ => cases h
theorem k_path0 (xo : XOk L lv se X) : ∀ (n : Nat) {o : Expr} {i : Nat} {p : List Nat}, sizeOf o < n → pthOf se o = some (i, p) → PE X o (tKp L i p) ∧ bareCall o = false ∧ (∀ env whole, isTrue o env whole = (do let v ← whole; standAt o.pos; holding [v] (truthy v))) ∧ ∀ env x, foldedSetIterable o env x = pure x
  | 0, _, _, _, hn, _ => by omega
  | n + 1, o, i, p, hn, h => by
    unfold pthOf at h
    split at h
    · split at h
      · rename_i j hj
        split at h
        · cases h
        · rename_i hd
          obtain ⟨d1, d2⟩ := or_f hd
          cases h
          obtain ⟨p1, p2⟩ := loc_of xo hj
          refine ⟨PE.imp (pe_var p1 p2 (sNe d1) (sNe d2)) fun σ H Q ⟨S, H2, w, b, d, K, h, q⟩ => ?_, rfl, fun _ _ => rfl, fun _ _ => rfl⟩
          unfold atK at h
          split at h
          · rename_i d' hw
            have h : some d' = some d := h
            cases h
            obtain ⟨v, hv, r⟩ := K.sl _ _ hw
            exact ⟨v, hv, q v r⟩
          · cases h
      · cases h
    · rename_i a k u pc ps
      cases ha : pthOf se a with
      | none => rw [ha] at h; cases h
      | some z =>
        obtain ⟨i0, p0⟩ := z
        rw [ha] at h
        have h : (if 0 ≤ k then some (i0, p0 ++ [k.toNat]) else none) = some (i, p) := h
        split at h
        · rename_i hk
          cases h
          obtain ⟨ia, _⟩ := k_path0 xo n (by simp at hn; omega) ha
          refine ⟨PE.imp (pe_ix ix_seq ia pe_int (fun _ _ => rfl)) fun σ H Q ⟨S, H2, w, b, d, K, h, q⟩ => ?_, rfl, fun _ _ => rfl, fun _ _ => rfl⟩
          rw [xo.K]
          obtain ⟨d1, h1, h2⟩ := atK_app h
          refine ⟨S, H2, w, b, d1, K, h1, fun v r => ?_⟩
          have := kix (Q := Q) K h2 r q
          rw [Int.toNat_of_nonneg hk] at this
          exact this
        · cases h
    · cases h
theorem k_path (xo : XOk L lv se X) {o : Expr} {i : Nat} {p : List Nat} (h : pthOf se o = some (i, p)) : PE X o (tKp L i p) ∧ bareCall o = false ∧ (∀ env whole, isTrue o env whole = (do let v ← whole; standAt o.pos; holding [v] (truthy v))) ∧ ∀ env x, foldedSetIterable o env x = pure x := k_path0 xo (sizeOf o + 1) (Nat.lt_succ_self _) h
/-! ### statements -/
/-- undone: behind it stands what stood, but for the lists and the loops' names -/
def tK (L : Lk) (c : Nat → Bool → Dv → Bool) (D : Kx) : TS := fun E σ H => ∃ S H2 w b, KSt L S H2 w b σ H ∧ okK c b D w = true ∧ ∀ σ' H', JK S H2 H' → Same (tgK D) σ σ' → E.nx σ' H'
/-- what calls do -/
def CallC (L : Lk) (lv : Nat) (c : Nat → Bool → Dv → Bool) : Prop := ∀ x f b d, lkS x L.gl = some (.fn f) → c f b d = true → ∃ D, L.pg.kfI lv f = some D ∧ okK (fun _ _ _ => false) b D (oneK d) = true
theorem Same.trans {own : List Nat} {σ σ1 σ2 : L2.St} (a : Same own σ σ1) (b : Same own σ1 σ2) : Same own σ σ2 := ⟨b.1.trans a.1, fun j hj => (b.2 j hj).trans (a.2 j hj)⟩
theorem Same.more {own own' : List Nat} {σ σ1 : L2.St} (a : Same own σ σ1) (h : ∀ j ∈ own, j ∈ own') : Same own' σ σ1 := ⟨a.1, fun j hj => a.2 j fun z => hj (h j z)⟩
structure SndKs (L : Lk) (lv : Nat) (c : Nat → Bool → Dv → Bool) (n : Nat) : Prop where
  s : ∀ {se : SE} {X : Cx} {W : WX} {st : Stmt} {D : Kx}, YOk L lv se X → Takes X W → cK1 n se st = some D → PS X st (tK L c D)
  b : ∀ {se : SE} {X : Cx} {W : WX} {st : List Stmt} {D : Kx}, YOk L lv se X → Takes X W → cK n se st = some D → PSs X st (tK L c D)
theorem drop_sl {l : List Nat} {w : Nat → Option Dv} {i : Nat} {d : Dv} (h : dropK l w i = some d) : i ∉ l ∧ w i = some d := by
  unfold dropK at h
  split at h
  · cases h
  · rename_i q
    exact ⟨fun z => q (List.contains_iff_mem.mpr z), h⟩
theorem k_clr (yo : YOk L lv se X) {c : Nat → Bool → Dv → Bool} {o : Expr} {i : Nat} {p : List Nat} {pm pc pos : Pos} (h : pthOf se o = some (i, p)) (hl : (pm.endLine == pc.line) = true) : PS X (.Expr (.Call (.Attribute o "clear" pm) [] [] pc) pos) (tK L c (.clr i p)) := by
  obtain ⟨io, hb, _⟩ := k_path yo.x h
  refine PS.imp (ps_expr (pe_bm0 PySem.F.plainAttrs_list PySem.F.slot_list_clear PySem.F.type_list_clear mt_clear io (base_of hb _ _ _) hl) rfl) fun D σ H ⟨S, H2, w, b, K, ok, nx⟩ => ?_
  unfold okK at ok
  split at ok
  · rename_i ds ha
    refine ⟨S, H2, w, b, _, K, ha, fun v r => ?_⟩
    obtain ⟨a, xs, rfl, hx, _⟩ := r
    obtain ⟨ys, hy, _⟩ := K.j.ls a xs hx
    exact ⟨.inl ⟨rfl, ys, .inl (.inl hy)⟩, a, ys, rfl, rfl, hy, nx σ _ (K.j.upd hx hy (Nat.zero_le _) fun z hz => by cases hz) .refl⟩
  · cases ok
theorem k_rev (yo : YOk L lv se X) {c : Nat → Bool → Dv → Bool} {o : Expr} {i : Nat} {pm pc pos : Pos} (h : pthOf se o = some (i, [])) (hl : (pm.endLine == pc.line) = true) : PS X (.Expr (.Call (.Attribute o "reverse" pm) [] [] pc) pos) (tK L c (.rev i)) := by
  obtain ⟨io, hb, _⟩ := k_path yo.x h
  refine PS.imp (ps_expr (pe_bm0 PySem.F.plainAttrs_list PySem.F.slot_list_reverse PySem.F.type_list_reverse mt_reverse io (base_of hb _ _ _) hl) rfl) fun D σ H ⟨S, H2, w, b, K, ok, nx⟩ => ?_
  unfold okK at ok
  split at ok
  · rename_i ds ha
    refine ⟨S, H2, w, b, _, K, ha, fun v r => ?_⟩
    obtain ⟨a, xs, rfl, hx, _⟩ := r
    obtain ⟨ys, hy, _⟩ := K.j.ls a xs hx
    exact ⟨.inl ⟨rfl, ys, .inl (.inl hy)⟩, a, ys, rfl, rfl, hy, nx σ _ (K.j.upd hx hy (by rw [List.length_reverse]; exact Nat.le_refl _) fun z hz => List.mem_reverse.mp hz) .refl⟩
  · cases ok
theorem k_call (co : CallsOk L lv) (yo : YOk L lv se X) (tk : Takes X W) {c : Nat → Bool → Dv → Bool} (hc : CallC L lv c) {f i : Nat} {g x : Str} {gp xp cp pos : Pos} (hg : gloOf se g = some (.own (.fn f))) (hx : locOf se x = some i) (d0 : sEq g "__debug__" = false) (d1 : sEq x "__debug__" = false) (d2 : sEq x "__classdict__" = false) :
    PS X (.Expr (.Call (.Name g gp) [.Name x xp] [] cp) pos) (tK L c (.call f i)) := by
  obtain ⟨gl, lk⟩ := glo_own yo.x hg
  obtain ⟨hm, hk, hb, hln, _⟩ := co.fn g f lk
  obtain ⟨p1, p2⟩ := loc_of yo.x hx
  have key : ∀ D, L.pg.kfI lv f = some D → PS X (.Expr (.Call (.Name g gp) [.Name x xp] [] cp) pos) (tDrop (tCallS (spK L f D) (WE W) (tCons (tVar i) tNil))) := fun D hD => by
    obtain ⟨_, F⟩ := co.kfn g f D lk hD
    exact ps_expr (pe_callS (E := WE W) (fn_at yo.x F) (yo.x.room.mono (by omega)) gl (by rw [yo.x.mg]; exact hm) (by rw [yo.x.K]; exact hk) (by rw [yo.x.K]; exact hb) (passAt tk) (pa_cons (pe_var p1 p2 (sNe d1) (sNe d2)) pa_nil rfl) (sNe d0) rfl rfl) rfl
  refine ⟨fun pins s σ H E I h => ?_⟩
  obtain ⟨S, H2, w, b, K, ok, nx⟩ := h
  unfold okK at ok
  split at ok
  · rename_i d hw
    obtain ⟨D, hD, ok2⟩ := hc g f b d lk ok
    obtain ⟨h1, _⟩ := co.kfn g f D lk hD
    obtain ⟨v, hv, r⟩ := K.sl _ _ hw
    exact (key D hD).run pins s σ H E I ⟨v, hv, S, H2, v, d, b, rfl, K.sub, K.j, K.ex, r, ok2, by rw [h1]; rfl, fun H' J => nx σ H' J .refl⟩
  · cases ok
theorem k_for (yo : YOk L lv se X) {c : Nat → Bool → Dv → Bool} {y : Str} {j i : Nat} {p : List Nat} {it : Expr} {b : List Stmt} {D : Kx} {py pos : Pos} (hy : stoOf se y = some j) (h : pthOf se it = some (i, p)) (ib : PSs X b (tK L c D)) : PS X (.For (.Name y py) it b [] pos) (tK L c (.for j i p D)) := by
  obtain ⟨io, _, _, hs⟩ := k_path yo.x h
  obtain ⟨q1, q2, q3⟩ := yo.stores y j hy
  refine PS.impL (ps_for yo.ps yo.x.calm (PI.or (pi_list io) (pi_tup io)) (pg_name yo.x.nd q1 q2 q3) ib (hs X.env)) fun E σ H hlen ⟨S, H2, w, bb, K, ok, nx⟩ => ?_
  have hj : j < σ.length := by rw [hlen]; exact (List.getElem?_eq_some_iff.mp q1).1
  rw [yo.x.K]
  -- one turn
  have turn : ∀ {ds : List Dv} {xs : List V} {N : L2.St → Hp → Prop} {x : V} {σ1 : L2.St} {H1 : Hp}, (ds.all fun d => okK c false D (setK (dropK (tgK D) w) j d)) = true → kReps L.G S ds xs → x ∈ xs → JK S H2 H1 → Same (j :: tgK D) σ σ1 → (∀ σ' H', JK S H2 H' → Same (j :: tgK D) σ σ' → N σ' H') →
      tK L c D { E with nx := N, ct := N, bk := E.nx } (σ1.set j (some x)) H1 := fun {ds xs N x σ1 H1} hok hr hx J1 sm hN => by
    obtain ⟨d, hd, rd⟩ := kReps_mem hr hx
    refine ⟨S, H2, _, false, ⟨K.sub, J1, fun z => Bool.noConfusion z, fun i0 d0 h0 => ?_⟩, List.all_eq_true.mp hok d hd, fun σ' H' J' sm' => hN σ' H' J' ?_⟩
    · unfold setK at h0
      split at h0
      · rename_i e
        subst e
        cases h0
        exact ⟨x, by rw [List.getElem?_set_self (by rw [sm.1]; exact hj)], rd⟩
      · rename_i ne
        obtain ⟨hn, hw⟩ := drop_sl h0
        obtain ⟨v, hv, r⟩ := K.sl _ _ hw
        refine ⟨v, ?_, r⟩
        rw [List.getElem?_set_ne (Ne.symm ne), sm.2 i0 fun z => by rcases List.mem_cons.mp z with z | z; exact ne z; exact hn z]
        exact hv
    · exact (sm.set List.mem_cons_self).trans (sm'.more fun j hj => List.mem_cons_of_mem _ hj)
  unfold okK at ok
  split at ok
  · rename_i ds ha
    refine .inl ⟨S, H2, w, bb, _, K, ha, fun v r => ?_⟩
    obtain ⟨a, xs, rfl, hx, hr⟩ := r
    obtain ⟨ys, hys, _⟩ := K.j.ls a xs hx
    refine ⟨a, rfl, ⟨ys, .inl (.inl hys)⟩, fun i m σ1 H1 => m = xs.length - i ∧ JK S H2 H1 ∧ Same (j :: tgK D) σ σ1, ⟨_, rfl, K.j, .refl⟩, fun i m σ1 H1 ⟨hm, J1, sm⟩ => ?_⟩
    obtain ⟨zs, hz, hzl, hzm⟩ := J1.ls a xs hx
    by_cases hi : i < zs.length
    · refine .inr ⟨⟨zs, zs[i], .inl (.inl hz), List.getElem?_eq_getElem hi⟩, fun σ' H' => JK S H2 H' ∧ Same (j :: tgK D) σ σ', fun σ' H' q => ⟨xs.length - (i + 1), by omega, rfl, q⟩, fun x H3 yl => ?_⟩
      obtain ⟨rfl, hx2⟩ := yl
      have hx3 := hx2 zs (.inl (.inl hz))
      exact turn ok hr (hzm x (List.mem_of_getElem? hx3)) J1 sm fun σ' H' J' s' => ⟨J', s'⟩
    · exact .inl ⟨⟨zs, .inl (.inl hz), by omega⟩, nx σ1 H1 J1 sm⟩
  · rename_i ds ha
    refine .inr ⟨S, H2, w, bb, _, K, ha, fun v r => ?_⟩
    obtain ⟨a, xs, rfl, hx, hr⟩ := r
    refine ⟨a, rfl, ⟨xs, K.j.sqT K.sub hx⟩, fun i m σ1 H1 => m = xs.length - i ∧ JK S H2 H1 ∧ Same (j :: tgK D) σ σ1, ⟨_, rfl, K.j, .refl⟩, fun i m σ1 H1 ⟨hm, J1, sm⟩ => ?_⟩
    have hz := J1.sqT K.sub hx
    by_cases hi : i < xs.length
    · refine .inr ⟨⟨xs, xs[i], hz, List.getElem?_eq_getElem hi⟩, fun σ' H' => JK S H2 H' ∧ Same (j :: tgK D) σ σ', fun σ' H' q => ⟨xs.length - (i + 1), by omega, rfl, q⟩, fun x H3 yl => ?_⟩
      obtain ⟨rfl, hx2⟩ := yl
      have hx3 := hx2 xs hz
      exact turn ok hr (List.mem_of_getElem? hx3) J1 sm fun σ' H' J' s' => ⟨J', s'⟩
    · exact .inl ⟨⟨xs, hz, by omega⟩, nx σ1 H1 J1 sm⟩
  · cases ok
theorem k_ifb (yo : YOk L lv se X) {c : Nat → Bool → Dv → Bool} {o : Expr} {i : Nat} {p : List Nat} {a b : List Stmt} {D E : Kx} {pos : Pos} (h : pthOf se o = some (i, p)) (ia : PSs X a (tK L c D)) (ib : PSs X b (tK L c E)) : PS X (.If o a b pos) (tK L c (.ifb i p D E)) := by
  obtain ⟨io, _, ht, _⟩ := k_path yo.x h
  refine PS.imp (ps_if (pt_val io (ht X.env)) ia ib) fun En σ H ⟨S, H2, w, bb, K, ok, nx⟩ => ?_
  unfold okK at ok
  split at ok
  · rename_i ha
    refine ⟨S, H2, w, bb, _, K, ha, fun v r => ⟨true, r, ?_⟩⟩
    show (if true = true then tK L c D En σ H else tK L c E En σ H)
    rw [if_pos rfl]
    exact ⟨S, H2, w, bb, K, ok, fun σ' H' J s => nx σ' H' J (s.more fun j hj => List.mem_append_left _ hj)⟩
  · rename_i ha
    refine ⟨S, H2, w, bb, _, K, ha, fun v r => ⟨false, r, ?_⟩⟩
    show (if false = true then tK L c D En σ H else tK L c E En σ H)
    rw [if_neg Bool.false_ne_true]
    exact ⟨S, H2, w, bb, K, ok, fun σ' H' J s => nx σ' H' J (s.more fun j hj => List.mem_append_right _ hj)⟩
  · cases ok
theorem k_skip {c : Nat → Bool → Dv → Bool} {x : Kx} : True := trivial
theorem k_ifl (co : CallsOk L lv) (yo : YOk L lv se X) {c : Nat → Bool → Dv → Bool} {x : Str} {i : Nat} {a : List Stmt} {D : Kx} {ip xp tp cp pos : Pos} (hg : gloOf se "isinstance" = some .blt) (ht : gloOf se "list" = some .blt) (hx : locOf se x = some i) (d1 : sEq x "__debug__" = false) (d2 : sEq x "__classdict__" = false) (ia : PSs X a (tK L c D)) :
    PS X (.If (.Call (.Name "isinstance" ip) [.Name x xp, .Name "list" tp] [] cp) a [] pos) (tK L c (.ifl i D)) := by
  obtain ⟨k1, k2, k3, k4⟩ := isi_name
  obtain ⟨l1, l2, l3, l4⟩ := tyOf_ok (y := "list") (T := .list) (by decide +kernel)
  obtain ⟨gi, _⟩ := glo_blt yo.x hg
  obtain ⟨gy, _⟩ := glo_blt yo.x ht
  obtain ⟨p1, p2⟩ := loc_of yo.x hx
  have pn : PE X (.Name "list" tp) (tC (.ty (tyV .list))) := pe_bltn gy (blt_none co yo.x ht l1) l4 rfl l2 l3
  have key := pe_callB (pos := cp) (p := ip) (call_isi (X := X)) gi (blt_none co yo.x hg k1) k4 (pa_cons (pe_var (pos := xp) p1 p2 (sNe d1) (sNe d2)) (pa_cons pn pa_nil rfl) rfl) k2 k3 rfl rfl
  refine PS.imp (ps_if (pt_val key fun _ => rfl) ia pss_nil) fun En σ H ⟨S, H2, w, bb, K, ok, nx⟩ => ?_
  rw [yo.x.K]
  unfold okK at ok
  split at ok
  · rename_i ds ha
    unfold atK at ha
    split at ha
    · rename_i d' hw
      have ha : some d' = some (.lst ds) := ha
      cases ha
      obtain ⟨v, hv, r⟩ := K.sl _ _ hw
      obtain ⟨b, xs, rfl, hb, _⟩ := r
      obtain ⟨ys, hy, _⟩ := K.j.ls b xs hb
      refine ⟨_, hv, .ref b, .ty (tyV .list), _, _, true, rfl, .ty _, ty_sql (.inl (.inl hy)), kit_ty (by decide +kernel), true, rfl, ?_⟩
      show (if true = true then tK L c D En σ H else En.nx σ H)
      rw [if_pos rfl]
      exact ⟨S, H2, w, bb, K, ok, fun σ' H' J s => nx σ' H' J s⟩
    · cases ha
  · rename_i ds ha
    unfold atK at ha
    split at ha
    · rename_i d' hw
      have ha : some d' = some (.tup ds) := ha
      cases ha
      obtain ⟨v, hv, r⟩ := K.sl _ _ hw
      obtain ⟨b, xs, rfl, hb, _⟩ := r
      refine ⟨_, hv, .ref b, .ty (tyV .list), _, _, false, rfl, .ty _, ty_sqt (K.j.sqT K.sub hb), kit_ty (by decide +kernel), false, rfl, ?_⟩
      show (if false = true then tK L c D En σ H else En.nx σ H)
      rw [if_neg Bool.false_ne_true]
      exact nx σ H K.j .refl
    · cases ha
  · cases ok
theorem snd_k1 {n : Nat} (co : CallsOk L lv) {c : Nat → Bool → Dv → Bool} (hc : CallC L lv c) (I : SndKs L lv c n) {st : Stmt} {D : Kx} (yo : YOk L lv se X) (tk : Takes X W) (h : cK1 (n + 1) se st = some D) : PS X st (tK L c D) := by
  unfold cK1 at h
  split at h
  · split at h
    · cases h
    · rename_i hl
      have hl := Nat.eq_of_beq_eq_true (by simpa using hl)
      split at h
      · rename_i i p hp
        split at h
        · rename_i hm
          cases sEqs hm
          cases h
          exact k_clr yo hp (by rw [beq_iff_eq]; exact hl)
        · split at h
          · rename_i hm
            cases sEqs hm
            split at h
            · cases h
              exact k_rev yo hp (by rw [beq_iff_eq]; exact hl)
            · cases h
          · cases h
      · cases h
  · split at h
    · cases h
    · rename_i hd
      obtain ⟨hd, d2⟩ := or_f hd
      obtain ⟨d0, d1⟩ := or_f (by rw [hd]; exact Bool.false_ne_true)
      split at h
      · rename_i g i hg hi
        cases h
        exact k_call co yo tk hc hg hi d0 d1 d2
      · cases h
  · split at h
    · rename_i j i p x hj hp hx
      cases h
      exact k_for yo hj hp (I.b yo tk hx)
    · cases h
  · split at h
    · rename_i hm
      obtain ⟨hm, m4⟩ := and_t hm
      obtain ⟨hm, m3⟩ := and_t hm
      obtain ⟨m1, m2⟩ := and_t hm
      cases sEqs m1
      cases sEqs m2
      split at h
      · rename_i i d hg ht hx hb
        cases h
        exact k_ifl co yo hg ht hx (by simpa using m3) (by simpa using m4) (I.b yo tk hb)
      · cases h
    · cases h
  · split at h
    · rename_i i p x y hp hx hy
      cases h
      exact k_ifb yo hp (I.b yo tk hx) (I.b yo tk hy)
    · cases h
  · cases h
theorem k_nil {c : Nat → Bool → Dv → Bool} : PSs X [] (tK L c .nop) := PSs.imp pss_nil fun E σ H ⟨S, H2, w, b, K, ok, nx⟩ => nx σ H K.j .refl
theorem k_cons {c : Nat → Bool → Dv → Bool} {a : Stmt} {r : List Stmt} {x y : Kx} (ia : PS X a (tK L c x)) (ib : PSs X r (tK L c y)) : PSs X (a :: r) (tK L c (.seq x y)) := by
  refine PSs.imp (pss_cons ia ib) fun E σ H ⟨S, H2, w, b, K, ok, nx⟩ => ?_
  unfold okK at ok
  obtain ⟨o1, o2⟩ := and_t ok
  refine ⟨S, H2, w, b, K, o1, fun σ1 H1 J1 s1 => ⟨S, H2, _, false, ⟨K.sub, J1, fun z => Bool.noConfusion z, fun i d h => ?_⟩, o2, fun σ' H' J s => nx σ' H' J ?_⟩⟩
  · obtain ⟨hn, hw⟩ := drop_sl h
    obtain ⟨v, hv, r⟩ := K.sl _ _ hw
    exact ⟨v, by rw [s1.2 i hn]; exact hv, r⟩
  · exact (s1.more fun j hj => List.mem_append_left _ hj).trans (s.more fun j hj => List.mem_append_right _ hj)
theorem sndks_all (co : CallsOk L lv) {c : Nat → Bool → Dv → Bool} (hc : CallC L lv c) : ∀ n, SndKs L lv c n
  | 0 => {
      s := fun _ _ h => by unfold cK1 at h; cases h
      b := fun {se X W st m} yo tk h => by
        cases st with
        | nil => unfold cK at h; cases h; exact k_nil
        | cons a r => unfold cK at h; cases h }
  | n + 1 =>
    let I := sndks_all co hc n
    { s := fun yo tk h => snd_k1 co hc I yo tk h
      b := fun {se X W st m} yo tk h => by
        cases st with
        | nil => unfold cK at h; cases h; exact k_nil
        | cons a r =>
          unfold cK at h
          cases h1 : cK1 n se a with
          | none => rw [h1] at h; cases h
          | some x =>
            cases h2 : cK n se r with
            | none => rw [h1, h2] at h; cases h
            | some xs =>
              rw [h1, h2] at h
              cases h
              exact k_cons (I.s yo tk h1) (I.b yo tk h2) }
theorem callC_of : CallC L lv (callK (L.pg.kfI lv)) := fun x f b d _ h => by
  unfold callK at h
  split at h
  · exact ⟨_, by assumption, h⟩
  · cases h
theorem callC_no : CallC L lv (fun _ _ _ => false) := fun x f b d _ h => by cases h
/-! ### a stretch without the lists that stood -/
def lsty : HO → Bool
  | .lst _ => true
  | .frz _ (.lst _) => true
  | _ => false
def noS (S : Hp) : Hp := fun a => match S a with
  | some o => if lsty o then none else some o
  | none => none
def uni (S T : Hp) : Hp := fun a => match S a with
  | some o => some o
  | none => T a
theorem noS_of {S : Hp} {a : Addr} {o : HO} (h : S a = some o) (n : lsty o = false) : noS S a = some o := by
  unfold noS
  rw [h]
  show (if lsty o then none else some o) = some o
  rw [n]
  rfl
theorem noS_at {S : Hp} {a : Addr} {o : HO} (h : noS S a = some o) : S a = some o ∧ lsty o = false := by
  unfold noS at h
  cases q : S a with
  | none => rw [q] at h; cases h
  | some u =>
    rw [q] at h
    have h : (if lsty u then none else some u) = some o := h
    split at h
    · cases h
    · cases h
      exact ⟨rfl, by simpa using ‹¬ lsty o = true›⟩
theorem noS_sub {S : Hp} : Sub (noS S) S := fun a o h => (noS_at h).1
theorem uni_l {S T : Hp} : Sub S (uni S T) := fun a o h => by unfold uni; rw [h]
theorem uni_at {S T : Hp} {a : Addr} {o : HO} (h : uni S T a = some o) : S a = some o ∨ (S a = none ∧ T a = some o) := by
  unfold uni at h
  cases q : S a with
  | none => rw [q] at h; exact .inr ⟨rfl, h⟩
  | some u => rw [q] at h; exact .inl h
theorem uni_r {S T H : Hp} (s : Sub S H) (t : Sub T H) : Sub T (uni S T) := fun a o h => by
  unfold uni
  cases q : S a with
  | none => exact h
  | some u =>
    have h1 := s _ _ q
    rw [t _ _ h] at h1
    exact h1.symm
theorem noS_sqT {K : PySem.W.Frag} {S : Hp} {a : Addr} {xs : List V} (h : SqT K S a xs) : SqT K (noS S) a xs := by
  rcases h with (h | ⟨o, h⟩) | h
  · exact .inl (.inl (noS_of h rfl))
  · exact .inl (.inr ⟨o, noS_of h rfl⟩)
  · exact .inr h
mutual
theorem RepS.noL {G : Gx} {S : Hp} : ∀ {d : Dv} {v : V}, RepS G S v d → Dg.noL d = true → RepS G (noS S) v d
  | .non, _, r, _ => by cases r; exact .non
  | .bl _, _, r, _ => by cases r; exact .bl _
  | .int _, _, r, _ => by cases r; exact .int _
  | .str _, _, r, _ => by cases r; exact .str _
  | .tup ds, _, r, h => by cases r with | tup a b c => exact .tup (noS_sqT a) b (RepL.noL c h)
  | .lst ds, _, r, h => by cases h
  | .obj C fs, _, r, h => by cases r with | obj a c b => exact .obj (noS_of a rfl) c (RepF.noL b h)
  | .exc C t, _, r, h => by cases r with | exc a => exact .exc (noS_of a rfl)
  | .dct kvs, _, r, h => by cases h
theorem RepL.noL {G : Gx} {S : Hp} : ∀ {ds : List Dv} {vs : List V}, RepL G S vs ds → noLs ds = true → RepL G (noS S) vs ds
  | [], _, r, _ => by cases r; exact .nil
  | d :: ds, _, r, h => by
    cases r with
    | cons a b =>
      have h : (Dg.noL d && noLs ds) = true := h
      obtain ⟨h1, h2⟩ := and_t h
      exact .cons (RepS.noL a h1) (RepL.noL b h2)
theorem RepF.noL {G : Gx} {S : Hp} : ∀ {ds : List (Nat × Dv)} {vs : List (Str × V)}, RepF G S vs ds → noLf ds = true → RepF G (noS S) vs ds
  | [], _, r, _ => by cases r; exact .nil
  | (f, d) :: ds, _, r, h => by
    cases r with
    | cons e a b =>
      have h : (Dg.noL d && noLf ds) = true := h
      obtain ⟨h1, h2⟩ := and_t h
      exact .cons e (RepS.noL a h1) (RepF.noL b h2)
end
theorem noLE_len : ∀ e : Env, (noLE e).length = e.length
  | [] => rfl
  | o :: e => by
    have ih := noLE_len e
    unfold noLE
    split
    · rename_i h; cases h
    · rename_i h; cases h; simp [ih]
    · rename_i h; cases h; simp [ih]
theorem noLE_slot : ∀ {e : Env} {i : Nat} {sv : Sv}, slot (noLE e) i = some sv → ∃ d, sv = .sh d ∧ noL d = true ∧ slot e i = some (.sh d)
  | [], i, sv, h => by unfold noLE at h; cases h
  | some (.sh d) :: e, i, sv, h => by
    unfold noLE at h
    cases i with
    | zero =>
      have h : (if noL d then some (Sv.sh d) else none) = some sv := h
      split at h
      · cases h; exact ⟨d, rfl, by assumption, rfl⟩
      · cases h
    | succ i =>
      obtain ⟨d', h1, h2, h3⟩ := noLE_slot (e := e) (i := i) h
      exact ⟨d', h1, h2, h3⟩
  | none :: e, i, sv, h => by
    unfold noLE at h
    cases i with
    | zero => cases h
    | succ i =>
      obtain ⟨d', h1, h2, h3⟩ := noLE_slot (e := e) (i := i) h
      exact ⟨d', h1, h2, h3⟩
  | some (.l1 _) :: e, i, sv, h => by
    unfold noLE at h
    cases i with
    | zero => cases h
    | succ i =>
      obtain ⟨d', h1, h2, h3⟩ := noLE_slot (e := e) (i := i) h
      exact ⟨d', h1, h2, h3⟩
  | some (.d1 _) :: e, i, sv, h => by
    unfold noLE at h
    cases i with
    | zero => cases h
    | succ i =>
      obtain ⟨d', h1, h2, h3⟩ := noLE_slot (e := e) (i := i) h
      exact ⟨d', h1, h2, h3⟩
  | some (.o1 _ _) :: e, i, sv, h => by
    unfold noLE at h
    cases i with
    | zero => cases h
    | succ i =>
      obtain ⟨d', h1, h2, h3⟩ := noLE_slot (e := e) (i := i) h
      exact ⟨d', h1, h2, h3⟩
  | some (.l2 _) :: e, i, sv, h => by
    unfold noLE at h
    cases i with
    | zero => cases h
    | succ i =>
      obtain ⟨d', h1, h2, h3⟩ := noLE_slot (e := e) (i := i) h
      exact ⟨d', h1, h2, h3⟩
  | some (.bw _) :: e, i, sv, h => by
    unfold noLE at h
    cases i with
    | zero => cases h
    | succ i =>
      obtain ⟨d', h1, h2, h3⟩ := noLE_slot (e := e) (i := i) h
      exact ⟨d', h1, h2, h3⟩
  | some (.m1 _) :: e, i, sv, h => by
    unfold noLE at h
    cases i with
    | zero => cases h
    | succ i =>
      obtain ⟨d', h1, h2, h3⟩ := noLE_slot (e := e) (i := i) h
      exact ⟨d', h1, h2, h3⟩
theorem Rel.enter {G : Gx} {F : Fm} {e : Env} {σ : L2.St} {H S : Hp} (R : Rel G F e σ H S) : Rel G ⟨H, noS S, []⟩ (noLE e) σ H (noS S) where
  sub := noS_sub.trans R.sub
  old := fun a o _ h => h
  keep := fun a h => h
  s0 := .refl _
  new := fun a o h => .inl h
  len := by rw [noLE_len]; exact R.len
  sl := fun i sv h => by
    obtain ⟨d, rfl, hd, hs⟩ := noLE_slot h
    obtain ⟨v, hv, r⟩ := R.sl i _ hs
    exact ⟨v, hv, RepS.noL r hd⟩
  ap := fun i j sv sw v w a _ h1 _ _ _ h5 _ => by
    obtain ⟨d, rfl, _⟩ := noLE_slot h1
    cases h5
theorem InnL.leave {G : Gx} {H0 H1 H S T : Hp} (h : ∀ b, H1 b = none → H0 b = none) (s : ∀ b, H1 b = none → S b = none → T b = none) (up : Sub S T) : ∀ {bs : List Addr} {dss : List (List Dv)}, InnL G H1 H S bs dss → InnL G H0 H T bs dss
  | [], [], _ => trivial
  | b :: bs, ds :: dss, ⟨⟨xs, hb, z, q, n, f⟩, t⟩ => ⟨⟨xs, hb, z, q.mono up, s b f n, h b f⟩, InnL.leave h s up t⟩
  | [], _ :: _, x => x.elim
  | _ :: _, [], x => x.elim
theorem free_of {G : Gx} {F : Fm} {e0 : Env} {σ0 : L2.St} {H S : Hp} (R0 : Rel G F e0 σ0 H S) {a : Addr} (h : H a = none) : F.H0 a = none := by
  cases q : F.H0 a with
  | none => rfl
  | some u => exact absurd h (R0.keep a (by rw [q]; simp))
theorem Own.leave {G : Gx} {F : Fm} {e0 : Env} {σ0 : L2.St} {H S H' T : Hp} (R0 : Rel G F e0 σ0 H S) (hs : Sub S H') (ht : Sub T H') {v : V} {sv : Sv} (r : Own G ⟨H, noS S, []⟩ H' T v sv) : Own G F H' (uni S T) v sv := by
  have nn : ∀ {a : Addr}, H a = none → T a = none → uni S T a = none := fun {a} h1 h2 => by
    unfold uni
    rw [R0.sub.none h1]
    exact h2
  cases sv with
  | sh d => exact RepS.mono (uni_r hs ht) r
  | l1 ds =>
    obtain ⟨a, xs, rfl, h, z, q, n, f⟩ := r
    exact ⟨a, xs, rfl, h, z, q.mono (uni_r hs ht), nn f n, free_of R0 f⟩
  | d1 kvs =>
    obtain ⟨a, kv, rfl, h, q, n, f⟩ := r
    exact ⟨a, kv, rfl, h, q.mono (uni_r hs ht), nn f n, free_of R0 f⟩
  | l2 dss =>
    obtain ⟨a, bs, rfl, h, z, q, nd, na, n, f⟩ := r
    exact ⟨a, bs, rfl, h, z, q.leave (fun b hb => free_of R0 hb) (fun b h1 h2 => nn h1 h2) (uni_r hs ht), nd, na, nn f n, free_of R0 f⟩
  | o1 C fs =>
    obtain ⟨a, dx, xs, rfl, h, c, q, n, f⟩ := r
    cases f
  | m1 ds =>
    obtain ⟨a, xs, rfl, h, z, q, n, f⟩ := r
    cases f
  | bw d => exact r.elim
theorem Rel.stay {G : Gx} {F : Fm} {e0 e1 : Env} {σ0 σ1 : L2.St} {H S H' T : Hp} (R0 : Rel G F e0 σ0 H S) (R : Rel G ⟨H, noS S, []⟩ e1 σ1 H' T) : Sub S H' := fun a o h => R.old a o (by simp) (R0.sub _ _ h)
theorem Rel.leave {G : Gx} {F : Fm} {e0 e1 : Env} {σ0 σ1 : L2.St} {H S H' T : Hp} (R0 : Rel G F e0 σ0 H S) (R : Rel G ⟨H, noS S, []⟩ e1 σ1 H' T) : Rel G F e1 σ1 H' (uni S T) where
  sub := fun a o h => by
    rcases uni_at h with h | ⟨_, h⟩
    · exact R0.stay R _ _ h
    · exact R.sub _ _ h
  old := fun a o m h => R.old a o (by simp) (R0.old a o m h)
  keep := fun a h => R.keep a (R0.keep a h)
  s0 := R0.s0.trans uni_l
  new := fun a o h => by
    rcases uni_at h with h | ⟨hn, h⟩
    · exact R0.new a o h
    · rcases R.new a o h with q | ⟨q, pl⟩
      · rw [noS_sub _ _ q] at hn; cases hn
      · exact .inr ⟨free_of R0 q, pl⟩
  len := R.len
  sl := fun i sv h => by
    obtain ⟨v, h1, h2⟩ := R.sl i sv h
    exact ⟨v, h1, h2.leave R0 (R0.stay R) R.sub⟩
  ap := R.ap
/-- the lists of the stretch are its own -/
theorem Rel.plain {G : Gx} {H S H' T : Hp} {e1 : Env} {σ1 : L2.St} (R : Rel G ⟨H, noS S, []⟩ e1 σ1 H' T) {a : Addr} {o : HO} (h : T a = some o) (l : lsty o = true) : H a = none ∧ Pl o := by
  rcases R.new a o h with q | q
  · rw [(noS_at q).2] at l; cases l
  · exact q
mutual
theorem RepS.k {G : Gx} {S : Hp} (pl : ∀ a o u, S a ≠ some (.frz o (.lst u))) (nol : ∀ (a : Addr) (o : Obj) (its : Array Value) (n : Nat), G.K.lookup a = some o → o.cls = .type "list" → o.data = .seq its n → False) : ∀ {d : Dv} {v : V}, RepS G S v d → kRep G S d v
  | .non, _, _ => trivial
  | .bl _, _, r => by cases r; rfl
  | .int _, _, _ => trivial
  | .str _, _, _ => trivial
  | .tup ds, _, r => by cases r with | tup a b c => exact ⟨_, _, rfl, a, RepL.k pl nol c⟩
  | .lst ds, _, r => by
    cases r with
    | lst a b c =>
      rcases a with (a | ⟨o, a⟩) | ⟨o, its, n, h1, h2, _, h3, _⟩
      · exact ⟨_, _, rfl, a, RepL.k pl nol c⟩
      · exact absurd a (pl _ _ _)
      · exact (nol _ _ _ _ h1 h2 h3).elim
  | .obj _ _, _, _ => trivial
  | .exc _ _, _, _ => trivial
  | .dct _, _, _ => trivial
theorem RepL.k {G : Gx} {S : Hp} (pl : ∀ a o u, S a ≠ some (.frz o (.lst u))) (nol : ∀ (a : Addr) (o : Obj) (its : Array Value) (n : Nat), G.K.lookup a = some o → o.cls = .type "list" → o.data = .seq its n → False) : ∀ {ds : List Dv} {vs : List V}, RepL G S vs ds → kReps G S ds vs
  | [], _, r => by cases r; trivial
  | d :: ds, _, r => by cases r with | cons a b => exact ⟨RepS.k pl nol a, RepL.k pl nol b⟩
end
theorem Rel.undo {G : Gx} {F : Fm} {e0 e1 : Env} {σ0 σ1 σ2 : L2.St} {H S H' T H3 : Hp} {own : List Nat} (R0 : Rel G F e0 σ0 H S) (R : Rel G ⟨H, noS S, []⟩ e1 σ1 H' T) (J : JK T H' H3) (sm : Same own σ1 σ2) : Rel G F (wipeE own (noLE e1)) σ2 H3 (uni S (noS T)) := by
  have eqH : ∀ {a : Addr} {o : HO}, H a = some o → H3 a = H' a := fun {a o} h => J.eq a fun xs e => by
    have := (R.plain e rfl).1
    rw [h] at this
    cases this
  have eqT : ∀ {a : Addr} {o : HO}, noS T a = some o → H3 a = some o := fun {a o} h => by
    obtain ⟨h1, h2⟩ := noS_at h
    rw [J.eq a fun xs e => by rw [h1] at e; cases e; cases h2]
    exact R.sub _ _ h1
  have stay : Sub S H3 := fun a o h => by
    rw [eqH (R0.sub _ _ h)]
    exact R0.stay R _ _ h
  have base : Rel G F (noLE e1) σ1 H3 (uni S (noS T)) := {
    sub := fun a o h => by
      rcases uni_at h with h | ⟨_, h⟩
      · exact stay _ _ h
      · exact eqT h
    old := fun a o m h => by
      have h1 := R0.old a o m h
      rw [eqH h1]
      exact R.old a o (by simp) h1
    keep := fun a h z => by
      have h1 := R0.keep a h
      cases q : H a with
      | none => exact h1 q
      | some o =>
        rw [eqH q, R.old a o (by simp) q] at z
        cases z
    s0 := R0.s0.trans uni_l
    new := fun a o h => by
      rcases uni_at h with h | ⟨hn, h⟩
      · exact R0.new a o h
      · rcases R.new a o (noS_sub _ _ h) with q | ⟨q, pl⟩
        · rw [noS_sub _ _ q] at hn; cases hn
        · exact .inr ⟨free_of R0 q, pl⟩
    len := by rw [noLE_len]; exact R.len
    sl := fun i sv h => by
      obtain ⟨d, rfl, hd, hs⟩ := noLE_slot h
      obtain ⟨v, hv, r⟩ := R.sl i _ hs
      exact ⟨v, hv, RepS.mono (uni_r stay fun a o h => eqT h) (RepS.noL r hd)⟩
    ap := fun i j sv sw v w a _ h1 _ _ _ h5 _ => by
      obtain ⟨d, rfl, _⟩ := noLE_slot h1
      cases h5 }
  have R3 := base.wipe own
  rw [← wipe_same sm] at R3
  exact {
    sub := R3.sub
    old := R3.old
    keep := R3.keep
    s0 := R3.s0
    new := R3.new
    len := by rw [R3.len, wipe_length]
    sl := fun i sv h => by
      obtain ⟨v, hv, r⟩ := R3.sl i sv h
      refine ⟨v, ?_, r⟩
      by_cases hi : i ∈ own
      · by_cases hl : i < σ2.length
        · rw [wipe_in hi hl] at hv; cases hv
        · rw [List.getElem?_eq_none (by rw [wipe_length]; omega)] at hv; cases hv
      · rw [wipe_out hi] at hv
        exact hv
    ap := fun i j sv sw v w a hij h1 h2 h3 h4 h5 h6 => by
      obtain ⟨v', hv', r'⟩ := R3.sl i sv h1
      obtain ⟨w', hw', q'⟩ := R3.sl j sw h2
      have k : ∀ {i : Nat} {v v' : V}, (L2.wipe σ2 own)[i]? = some (some v') → σ2[i]? = some (some v) → v' = v := fun {i v v'} h1 h2 => by
        by_cases hi : i ∈ own
        · by_cases hl : i < σ2.length
          · rw [wipe_in hi hl] at h1; cases h1
          · rw [List.getElem?_eq_none (by rw [wipe_length]; omega)] at h1; cases h1
        · rw [wipe_out hi, h2] at h1
          cases h1
          rfl
      have e1 := k hv' h3
      have e2 := k hw' h4
      subst e1 e2
      exact R3.ap i j sv sw _ _ a hij h1 h2 hv' hw' h5 h6 }
theorem s_rgn (co : CallsOk L lv) {B K R : List Stmt} {x xs : Blk} {d : Kx} (ib : PSs X B (tBk L lv x W)) (ik : PSs X K (tK L (callK (L.pg.kfI lv)) d)) (ir : PSs X R (tBk L lv xs W)) : PSs X (B ++ (K ++ R)) (tBk L lv (.cons (.rgn x d) xs) W) := by
  refine PSs.imp (pss_app ib (pss_app ik ir)) fun D σ H ⟨F, e, S, R0, o⟩ => ?_
  rw [execB, execS] at o
  refine ⟨⟨H, noS S, []⟩, noLE e, noS S, R0.enter, ?_⟩
  cases q : execB (clI L.pg lv) x (noLE e) with
  | nx e1 =>
    rw [q] at o
    intro σ1 H1 T R1
    have o : OutR L F W D ((if okK (callK (L.pg.kfI lv)) true d (viewK e1) then Rt.nx (wipeE (tgK d) (noLE e1)) else .no).then fun e1 => execB (clI L.pg lv) xs e1) := o
    split at o
    · rename_i ok
      refine ⟨T, H1, viewK e1, true, ⟨R1.sub, .refl R1.sub, fun _ => rfl, fun i d h => ?_⟩, ok, fun σ2 H2 J sm => ⟨F, _, _, R0.undo R1 J sm, o⟩⟩
      unfold viewK at h
      split at h
      · rename_i d' hs
        cases h
        obtain ⟨v, hv, r⟩ := R1.sl i _ hs
        exact ⟨v, hv, RepS.k (fun a o u z => (R1.plain z rfl).2 _ _ rfl) co.nol r⟩
      · cases h
    · exact o.elim
  | bk e1 =>
    rw [q] at o
    exact fun σ1 H1 T R1 => o σ1 H1 _ (R0.leave R1)
  | ct e1 =>
    rw [q] at o
    exact fun σ1 H1 T R1 => o σ1 H1 _ (R0.leave R1)
  | rt sv e1 =>
    rw [q] at o
    exact fun v σ1 H1 T R1 ow => o v σ1 H1 _ (R0.leave R1) (ow.leave R0 (R0.stay R1) R1.sub)
  | ex C t e1 =>
    rw [q] at o
    exact fun σ1 H1 T R1 => o σ1 H1 _ (R0.leave R1)
  | no =>
    rw [q] at o
    exact o.elim
end
end Dg

/-! The evaluator is sound: every expression that takes from a list of the frame, its statements. -/
namespace Dg
open PySem PySem.Spec L2
section
variable {L : Lk} {lv : Nat} {se : SE} {X : Cx} {W : WX}
/-! ### the shape -/
def shp : Expr → Bool
  | .Call _ _ _ _ => true
  | .BinOp _ _ _ _ => true
  | .Compare _ _ _ _ => true
  | .Tuple _ _ _ => true
  | .List _ _ => true
  | .Subscript _ _ _ => true
  | _ => false
theorem cF_or {n : Nat} {e : Expr} {m : Fx} (h : cF n se e = some m) : (∃ k x, cE k se e = some x) ∨ shp e = true := by
  cases n with
  | zero => unfold cF at h; cases h
  | succ n =>
    unfold cF at h
    split at h
    · rename_i x hx
      exact .inl ⟨n, x, hx⟩
    · refine .inr ?_
      split at h <;> first | rfl | cases h
theorem star_ofF {n : Nat} {e : Expr} {m : Fx} (h : cF n se e = some m) (es : List Expr) (env : PySem.Env) : starEach (e :: es) env = (false, eval e env) :: starEach es env := by
  rcases cF_or h with ⟨k, x, hx⟩ | h
  · exact star_of hx es env
  · cases e <;> first | rfl | cases h
theorem plain_ixF {n : Nat} {e : Expr} {m : Fx} (h : cF n se e = some m) : PlainIx e := by
  rcases cF_or h with ⟨k, x, hx⟩ | h
  · exact plain_ix hx
  · cases e <;> first | exact fun _ _ => rfl | cases h
theorem nobehindF {n : Nat} {e : Expr} {m : Fx} (h : cF n se e = some m) (op : CmpOp) : behindInMarks op e = false := by
  rcases cF_or h with ⟨k, x, hx⟩ | h
  · exact nobehindX hx op
  · cases e <;> first | rfl | cases h
theorem nofoldF {n : Nat} {e : Expr} {m : Fx} (h : cF n se e = some m) (env : PySem.Env) : ∀ x, foldedSetIterable e env x = pure x := by
  rcases cF_or h with ⟨k, x, hx⟩ | h
  · exact nofold hx env
  · cases e <;> first | exact fun _ => rfl | cases h
theorem nostarF : ∀ {k : Nat} {es : List Expr} {ms : Fxs} {env : PySem.Env} {pos : Pos}, cFs k se es = some ms → (backTo pos (starEach es env)).any (·.1) = false
  | _, [], _, _, _, _ => rfl
  | 0, _ :: _, _, _, _, h => by unfold cFs at h; cases h
  | k + 1, e :: es, ms, env, pos, h => by
    unfold cFs at h
    cases h1 : cF k se e with
    | none => rw [h1] at h; cases h
    | some x =>
      cases h2 : cFs k se es with
      | none => rw [h1, h2] at h; cases h
      | some xs =>
        rw [star_ofF h1]
        have ih := nostarF (env := env) (pos := pos) h2
        show (false || (backTo pos (starEach es env)).any (·.1)) = false
        rw [ih]
        rfl
theorem nostarM : ∀ {k n : Nat} {es : List Expr} {i : Nat} {ms : Fxs} {env : PySem.Env} {pos : Pos}, cMs n se k es = some (i, ms) → (backTo pos (starEach es env)).any (·.1) = false ∧ ∃ e r, es = e :: r ∧ starEach (e :: r) env = (false, eval e env) :: starEach r env
  | _, 0, _, _, _, _, _, h => by unfold cMs at h; cases h
  | k, _ + 1, [], _, _, _, _, h => by cases k <;> (unfold cMs at h; cases h)
  | 0, n + 1, e :: es, i, ms, env, pos, h => by
    unfold cMs at h
    split at h
    · rename_i y py r heq
      cases heq
      split at h
      · cases h
      · split at h
        · rename_i j xs hj hxs
          have ih := nostarF (env := env) (pos := pos) hxs
          refine ⟨?_, _, _, rfl, rfl⟩
          show (false || (backTo pos (starEach _ env)).any (·.1)) = false
          rw [ih]
          rfl
        · cases h
    · rename_i hz _; exact absurd hz (Nat.succ_ne_zero _).symm
    · cases h
  | k + 1, n + 1, e :: es, i, ms, env, pos, h => by
    unfold cMs at h
    cases h1 : cF n se e with
    | none => rw [h1] at h; cases h
    | some x =>
      cases h2 : cMs n se k es with
      | none => rw [h1, h2] at h; cases h
      | some z =>
        obtain ⟨i', xs⟩ := z
        obtain ⟨ih, _⟩ := nostarM (env := env) (pos := pos) h2
        refine ⟨?_, _, _, rfl, star_ofF h1 es env⟩
        rw [star_ofF h1]
        show (false || (backTo pos (starEach es env)).any (·.1)) = false
        rw [ih]
        rfl
/-! ### every expression -/
structure SndFs (L : Lk) (lv n : Nat) : Prop where
  f : ∀ {se : SE} {X : Cx} {W : WX} {e : Expr} {m : Fx}, XOk L lv se X → Takes X W → cF n se e = some m → PE X e (tF L lv m)
  fs : ∀ {se : SE} {X : Cx} {W : WX} {es : List Expr} {m : Fxs}, XOk L lv se X → Takes X W → cFs n se es = some m → PA X es (tFs L lv m)
  ms : ∀ {se : SE} {X : Cx} {W : WX} {k i : Nat} {es : List Expr} {m : Fxs}, XOk L lv se X → Takes X W → cMs n se k es = some (i, m) → PA X es (tMs L lv k i m)
theorem snd_f {n : Nat} (co : CallsOk L lv) (I : SndFs L lv n) {e : Expr} {m : Fx} (xo : XOk L lv se X) (tk : Takes X W) (h : cF (n + 1) se e = some m) : PE X e (tF L lv m) := by
  unfold cF at h
  split at h
  · rename_i x hx
    cases h
    exact f_pu ((snd_all co n).e xo tk hx).1
  · split at h
    · rename_i y py m pm pc _
      split at h
      · cases h
      · rename_i hd
        obtain ⟨hd, d4⟩ := or_f hd
        obtain ⟨hd, d3⟩ := or_f (by rw [hd]; exact Bool.false_ne_true)
        obtain ⟨d1, d2⟩ := or_f (by rw [hd]; exact Bool.false_ne_true)
        have hl : (pm.endLine == pc.line) = true := by
          rw [beq_iff_eq]
          exact Nat.eq_of_beq_eq_true (by simpa using d1)
        have hm : sEq m "pop" = true := by simpa using d2
        cases sEqs hm
        split at h
        · rename_i j hj
          cases h
          exact f_pop xo hj d3 d4 hl
        · cases h
    · split at h
      · rename_i x y hx hy
        cases h
        exact f_bin xo (I.f xo tk hx) (I.f xo tk hy)
      · cases h
    · split at h
      · rename_i x y _ hx hy
        cases h
        exact f_cmp xo (nobehindF hy _) (I.f xo tk hx) (I.f xo tk hy)
      · cases h
    · split at h
      · rename_i xs hxs
        split at h
        · rename_i hl
          cases h
          exact f_tup hxs hl (I.fs xo tk hxs)
        · cases h
      · cases h
    · split at h
      · rename_i xs hxs
        split at h
        · rename_i hl
          cases h
          exact f_lst hxs hl (I.fs xo tk hxs)
        · cases h
      · cases h
    · split at h
      · rename_i x y hx hy
        cases h
        exact f_slh xo (I.f xo tk hx) (I.f xo tk hy)
      · cases h
    · split at h
      · rename_i x y _ hx hy
        cases h
        exact f_idx xo (plain_ixF hy) (I.f xo tk hx) (I.f xo tk hy)
      · cases h
    · rename_i x p args pos _
      split at h
      · cases h
      · rename_i hd
        obtain ⟨d1, d2⟩ := or_f hd
        split at h
        · rename_i f hg
          split at h
          · rename_i k hk
            split at h
            · rename_i i xs hxs
              cases h
              obtain ⟨s2, e, r, rfl, s1⟩ := nostarM (env := X.env) (pos := pos) hxs
              have s2 : (false || (backTo pos (starEach r X.env)).any (·.1)) = false := by
                rw [s1] at s2
                exact s2
              exact f_callM tk co xo hg d1 s1 (by simpa using s2) (I.ms xo tk hxs)
            · cases h
          · split at h
            · cases h
            · split at h
              · rename_i xs hxs
                cases h
                refine f_call tk co xo hg d1 (fun e r he => ?_) (fun he => ?_) (I.fs xo tk hxs)
                · subst he
                  cases n with
                  | zero => unfold cFs at hxs; cases hxs
                  | succ n =>
                    unfold cFs at hxs
                    cases h1 : cF n se e with
                    | none => rw [h1] at hxs; cases hxs
                    | some x =>
                      cases h2 : cFs n se r with
                      | none => rw [h1, h2] at hxs; cases hxs
                      | some xs => exact ⟨star_ofF h1 _ _, nostarF h2⟩
                · subst he
                  unfold cFs at hxs
                  cases hxs
                  rfl
              · cases h
        · cases h
    · cases h
theorem sndfs_all (co : CallsOk L lv) : ∀ n, SndFs L lv n
  | 0 => {
      f := fun _ _ h => by unfold cF at h; cases h
      fs := fun {se X W es m} xo tk h => by
        cases es with
        | nil => unfold cFs at h; cases h; exact fs_nil
        | cons a r => unfold cFs at h; cases h
      ms := fun _ _ h => by unfold cMs at h; cases h }
  | n + 1 =>
    let I := sndfs_all co n
    { f := fun xo tk h => snd_f co I xo tk h
      fs := fun {se X W es m} xo tk h => by
        cases es with
        | nil => unfold cFs at h; cases h; exact fs_nil
        | cons a r =>
          unfold cFs at h
          cases h1 : cF n se a with
          | none => rw [h1] at h; cases h
          | some x =>
            cases h2 : cFs n se r with
            | none => rw [h1, h2] at h; cases h
            | some xs =>
              rw [h1, h2] at h
              cases h
              exact fs_cons (star_ofF h1 _ _) (I.f xo tk h1) (I.fs xo tk h2)
      ms := fun {se X W k i es m} xo tk h => by
        cases es with
        | nil => cases k <;> (unfold cMs at h; cases h)
        | cons a r =>
          cases k with
          | zero =>
            unfold cMs at h
            split at h
            · rename_i n' y py r' hn _ heq
              cases heq
              cases hn
              split at h
              · cases h
              · rename_i hd
                obtain ⟨d1, d2⟩ := or_f hd
                split at h
                · rename_i j xs hj hxs
                  cases h
                  exact ms_zero xo hj d1 d2 (I.fs xo tk hxs)
                · cases h
            · rename_i hz _; exact absurd hz (Nat.succ_ne_zero _).symm
            · cases h
          | succ k =>
            unfold cMs at h
            cases h1 : cF n se a with
            | none => rw [h1] at h; cases h
            | some x =>
              cases h2 : cMs n se k r with
              | none => rw [h1, h2] at h; cases h
              | some z =>
                obtain ⟨i', xs⟩ := z
                rw [h1, h2] at h
                cases h
                exact ms_succ (star_ofF h1 _ _) (I.f xo tk h1) (I.ms xo tk h2) }
/-! ### statements -/
theorem tgIn_own (tg : Tg) : ∃ own, tgIn own tg = true := by
  cases tg with
  | nm i k => exact ⟨[i], by unfold tgIn; simp⟩
  | tp is => exact ⟨is, by unfold tgIn; exact List.all_eq_true.mpr fun i hi => by simpa using hi⟩
theorem asgF_read {fz : List Nat} {tg : Tg} {m : Fx} {D : Ends} {σ : L2.St} {H : Hp} (h : tS L lv (.asgF fz tg m) W D σ H) : tAsg (tF L lv m) (gT L.G.K tg) D σ H := by
  obtain ⟨F, e, S, R, o⟩ := h
  obtain ⟨S', _, R'⟩ := R.frz fz
  rw [execS] at o
  refine ⟨F, _, S', R', ?_⟩
  cases q : evalF (clI L.pg lv) m (frz fz e) with
  | ok z =>
    obtain ⟨d, e1⟩ := z
    rw [q] at o
    intro v H1 S1 R1 s1 r1
    have o : OutR L F W D (match bindD tg d e1 with
      | some e2 => .nx e2
      | none => .no) := o
    cases hb : bindD tg d e1 with
    | none => rw [hb] at o; exact o.elim
    | some e2 =>
      rw [hb] at o
      obtain ⟨own, ti⟩ := tgIn_own tg
      exact tg_ok (own := own) (σ0 := σ) R1 .refl ti r1 hb fun σ2 R2 _ => o σ2 H1 S1 R2
  | ex C t => rw [q] at o; exact o.elim
  | no => rw [q] at o; exact o.elim
theorem noswapF {n : Nat} {e : Expr} {m : Fx} (h : cF n se e = some m) (hl : isLc e = false) (t : Option Expr) (l : Nat) (env : PySem.Env) : swapsWith e t l env = pure false := by
  rcases cF_or h with ⟨k, x, hx⟩ | h
  · exact noswap hx hl t l env
  · cases e <;> first | rfl | cases h
theorem noswapTF {n : Nat} {e : Expr} {m : Fx} (h : cF n se e = some m) (ts : List Expr) (k : Nat) (p : Pos) (l : Nat) (env : PySem.Env) : swapsWithSole [.Tuple ts k p] e l env = pure false := by
  rcases cF_or h with ⟨k', x, hx⟩ | h
  · exact noswapT hx ts k p l env
  · cases e <;> first | rfl | cases h
theorem s_asgF (yo : YOk L lv se X) {n : Nat} {fz : List Nat} {x : Str} {i : Nat} {v : Expr} {m : Fx} {px pos : Pos} (hi : stoOf se x = some i) (hl : isLc v = false) (hv : cF n se v = some m) (ie : PE X v (tF L lv m)) : PS X (.Assign [.Name x px] v pos) (tS L lv (.asgF fz (.nm i false) m) W) := by
  obtain ⟨a, b, c⟩ := yo.stores x i hi
  exact PS.imp (ps_set yo.x.nd a b ie (noswapF hv hl _ _ _) c) fun D σ H h => asgF_read h
theorem s_tupF (yo : YOk L lv se X) {n : Nat} {fz : List Nat} {ts : List Expr} {kk : Nat} {p pos : Pos} {t : Tg} {v : Expr} {m : Fx} (ht : cTg se false (.Tuple ts kk p) = some t) (hv : cF n se v = some m) (hnt : ∀ vs k q, v ≠ .Tuple vs k q) (ie : PE X v (tF L lv m)) :
    PS X (.Assign [.Tuple ts kk p] v pos) (tS L lv (.asgF fz t m) W) := by
  have g := pg_of (X := X) yo.x.calm yo.x.nd yo.stores ht
  rw [yo.x.K] at g
  refine PS.imp (ps_asg ie g (noswapTF hv _ _ _ _ _) ?_ rfl) fun D σ H h => asgF_read h
  cases v <;> first | rfl | exact absurd rfl (hnt _ _ _)
theorem s_retF {fz : List Nat} {v : Expr} {m : Fx} {pos : Pos} (ie : PE X v (tF L lv m)) : PS X (.Return (some v) pos) (tS L lv (.retF fz m) W) := by
  refine PS.imp (ps_ret ie) fun D σ H ⟨F, e, S, R, o⟩ => ?_
  obtain ⟨S', _, R'⟩ := R.frz fz
  rw [execS] at o
  refine ⟨F, _, S', R', ?_⟩
  cases q : evalF (clI L.pg lv) m (frz fz e) with
  | ok z =>
    obtain ⟨d, e1⟩ := z
    rw [q] at o
    intro v H1 S1 R1 s1 r1
    exact o v σ H1 S1 R1 r1
  | ex C t => rw [q] at o; exact o.elim
  | no => rw [q] at o; exact o.elim
theorem s_iteF {fz : List Nat} {c : Expr} {m : Fx} {a b : List Stmt} {ma mb : Blk} {pos : Pos} (ic : PT X c (tFT L lv m)) (ia : PSs X a (tBk L lv ma W)) (ib : PSs X b (tBk L lv mb W)) : PS X (.If c a b pos) (tS L lv (.iteF fz m ma mb) W) := by
  refine PS.imp (ps_if ic ia ib) fun D σ H ⟨F, e, S, R, o⟩ => ?_
  obtain ⟨S', _, R'⟩ := R.frz fz
  rw [execS] at o
  refine ⟨F, _, S', R', ?_⟩
  cases q : evalF (clI L.pg lv) m (frz fz e) with
  | ok z =>
    obtain ⟨d, e1⟩ := z
    rw [q] at o
    intro v H1 S1 R1 s1 r1
    cases d with
    | bl k =>
      cases r1
      refine ⟨k, rfl, ?_⟩
      have o : OutR L F W D (if k then execB (clI L.pg lv) ma e1 else execB (clI L.pg lv) mb e1) := o
      cases k with
      | true => exact ⟨F, e1, S1, R1, o⟩
      | false => exact ⟨F, e1, S1, R1, o⟩
    | _ => exact o.elim
  | ex C t => rw [q] at o; exact o.elim
  | no => rw [q] at o; exact o.elim
/-- a loop's turns -/
theorem for_core {F : Fm} {e1 : Env} {σ : L2.St} {H1 S1 : Hp} {D : Ends} {t : Tg} {mb : Blk} {J : It} {ds : List Dv} (R1 : Rel L.G F e1 σ H1 S1) (wk : Walks L J S1 S1 ds) (o1 : OutR L F W D (forI t (execB (clI L.pg lv) mb) ds e1)) :
    ∃ Wv : Nat → Nat → L2.St → Hp → Prop, (∃ m, Wv 0 m σ H1) ∧ ∀ i m σ H, Wv i m σ H →
      (J.stop i H ∧ D.nx σ H) ∨ (J.go i H ∧ ∃ N : L2.St → Hp → Prop, (∀ σ' H', N σ' H' → ∃ m', m' < m ∧ Wv (i + 1) m' σ' H') ∧ ∀ x H', J.yld i H x H' → gT L.G.K t x σ H' fun σ2 H2 => tBk L lv mb W { D with nx := N, ct := N, bk := D.nx } σ2 H2) := by
  have R2 := R1.tight
  refine ⟨fun i m σ H => m = ds.length - i ∧ ∃ e S, Rel L.G { F with S0 := S1 } e σ H S ∧ OutR L { F with S0 := S1 } W D (forI t (execB (clI L.pg lv) mb) (ds.drop i) e), ⟨_, rfl, _, S1, R2, OutR.tight R1 (by rw [List.drop_zero]; exact o1)⟩, ?_⟩
  intro i m σ2 H2 ⟨hm, e2, S2, R3, o3⟩
  have wki := wk H2 S2 i (R3.s0.trans R3.sub) R3.s0 R3.sub
  by_cases hi : ds.length ≤ i
  · refine .inl ⟨wki.2 hi, ?_⟩
    rw [List.drop_of_length_le hi, forI] at o3
    exact o3 σ2 H2 S2 R3
  · have hi2 : i < ds.length := by omega
    have hd : ds[i]? = some ds[i] := List.getElem?_eq_getElem hi2
    obtain ⟨jg, jy⟩ := wki.1 _ hd
    rw [List.drop_eq_getElem_cons hi2, forI] at o3
    refine .inr ⟨jg, fun σ' H' => ∃ e S, Rel L.G { F with S0 := S1 } e σ' H' S ∧ OutR L { F with S0 := S1 } W D (forI t (execB (clI L.pg lv) mb) (ds.drop (i + 1)) e), fun σ' H' q => ⟨ds.length - (i + 1), by omega, rfl, q⟩, fun x H3 y => ?_⟩
    obtain ⟨S3, g3, r3⟩ := jy x H3 y
    have R4 := R3.mono g3
    cases hb : bindD t ds[i] e2 with
    | none => rw [hb] at o3; exact o3.elim
    | some e3 =>
      rw [hb] at o3
      obtain ⟨own, ti⟩ := tgIn_own t
      exact tg_ok (own := own) (σ0 := σ2) R4 .refl ti r3 hb fun σ4 R5 _ => ⟨_, e3, S3, R5, turn_out o3 fun e1 q σ' H' S' R6 => ⟨e1, S', R6, q⟩⟩
theorem s_forF (co : CallsOk L lv) (yo : YOk L lv se X) {n : Nat} {fz : List Nat} {tg a : Expr} {b : List Stmt} {t : Tg} {m : Fx} {mb : Blk} {rp ip pos : Pos} (hx : gloOf se "range" = some .blt) (ha : cF n se a = some m) (ia : PE X a (tF L lv m)) (ht : cTg se false tg = some t) (ib : PSs X b (tBk L lv mb W)) :
    PS X (.For tg (.Call (.Name "range" rp) [a] [] ip) b [] pos) (tS L lv (.forF fz t m mb) W) := by
  have g := pg_of (X := X) yo.x.calm yo.x.nd yo.stores ht
  rw [yo.x.K] at g
  obtain ⟨gl, _⟩ := glo_blt yo.x hx
  have s1 := star_ofF ha [] X.env
  refine PS.imp (ps_for yo.ps yo.x.calm (pi_range1 gl (blt_none co yo.x hx (by decide +kernel)) (pa_cons ia pa_nil s1) s1) g ib (fun _ => rfl)) fun D σ H ⟨F, e, S, R, o⟩ => ?_
  obtain ⟨S', _, R'⟩ := R.frz fz
  rw [execS] at o
  refine ⟨F, _, S', R', ?_⟩
  cases q : evalF (clI L.pg lv) m (frz fz e) with
  | ok z =>
    obtain ⟨d, e1⟩ := z
    rw [q] at o
    intro v H1 S1 R1 s1 r1
    cases d with
    | int j =>
      cases r1
      have o : OutR L F W D (if rOk j ∧ j.toNat ≤ LIM then forI t (execB (clI L.pg lv) mb) (rngI 0 j) e1 else .no) := o
      split at o
      · rename_i hr
        refine ⟨j, rfl, hr.1.1, hr.1.2, ?_⟩
        have e1 : j.toNat = (j - 0).toNat := by simp
        rw [e1]
        exact for_core R1 walks_rng o
      · exact o.elim
    | _ => exact o.elim
  | ex C t => rw [q] at o; exact o.elim
  | no => rw [q] at o; exact o.elim
theorem s_forS (yo : YOk L lv se X) {n : Nat} {fz : List Nat} {tg a : Expr} {b : List Stmt} {t : Tg} {m : Fx} {mb : Blk} {pos : Pos} (ha : cF n se a = some m) (ia : PE X a (tF L lv m)) (ht : cTg se false tg = some t) (ib : PSs X b (tBk L lv mb W)) :
    PS X (.For tg a b [] pos) (tS L lv (.forS fz t m mb) W) := by
  have g := pg_of (X := X) yo.x.calm yo.x.nd yo.stores ht
  rw [yo.x.K] at g
  refine PS.imp (ps_for yo.ps yo.x.calm (PI.or (pi_list ia) (pi_tup ia)) g ib (nofoldF ha X.env)) fun D σ H ⟨F, e, S, R, o⟩ => ?_
  obtain ⟨S', _, R'⟩ := R.frz fz
  rw [execS] at o
  rw [yo.x.K]
  cases q : evalF (clI L.pg lv) m (frz fz e) with
  | ok z =>
    obtain ⟨d, e1⟩ := z
    rw [q] at o
    have o : OutR L F W D (match d.items with
      | some ds => forI t (execB (clI L.pg lv) mb) ds e1
      | none => .no) := o
    cases d with
    | lst ds =>
      refine .inl ⟨F, _, S', R', ?_⟩
      rw [q]
      intro v H1 S1 R1 s1 r1
      cases r1 with
      | lst l z c => exact ⟨_, rfl, ⟨_, R1.sub.sqL l⟩, for_core R1 (walks_lst (fun H hb => hb.sqL l) c) o⟩
    | tup ds =>
      refine .inr ⟨F, _, S', R', ?_⟩
      rw [q]
      intro v H1 S1 R1 s1 r1
      cases r1 with
      | tup l z c => exact ⟨_, rfl, ⟨_, R1.sub.sqT l⟩, for_core R1 (walks_tup (fun H hb => hb.sqT l) c) o⟩
    | _ => exact o.elim
  | ex C t => rw [q] at o; exact o.elim
  | no => rw [q] at o; exact o.elim
end
end Dg

/-! The evaluator is sound: try, every statement. -/
namespace Dg
open PySem PySem.Spec L2 PyProof.Rows
section
variable {X : Cx} {pins : List (Addr × Obj)} {σ : L2.St} {H : Hp} {s : Shared}
/-- an object that stands, from now on tracked -/
theorem inv_track {a : Addr} {o : Obj} {oh : HO} (I : Inv X pins σ H s) (ha : s.heap.get? a = some o) (hd : ∀ v, o.data ≠ .cell v) (na : H a = none) (n0 : X.s_0.heap.get? a = none) (nL : a ≠ X.env.locals) (np : ∀ p ∈ X.pn ++ pins, p.1 ≠ a)
    (new : ObjOk X.prog X.w (upd H a oh) s.heap a oh) : Inv X pins σ (upd H a oh) s where
  ok := I.ok
  os := I.os
  bare := I.bare
  base := {
    keep := I.base.keep
    slot := I.base.slot
    free := fun b u q n hx => by
      rw [upd_ne (fun z => by rw [z, n0] at q; cases q)]
      exact I.base.free b u q n hx
    there := I.base.there
    tups := fun b xs q => by
      have := I.base.tups b xs q
      rw [upd_ne (ne_of_none this na)]
      exact this
    frzs := fun b o u q => by
      have := I.base.frzs b o u q
      rw [upd_ne (ne_of_none this na)]
      exact this
    tbls := fun b ps q => by
      obtain ⟨m, h⟩ := I.base.tbls b ps q
      exact ⟨m, by rw [upd_ne (ne_of_none h na)]; exact h⟩ }
  loc := I.loc
  cell := I.cell
  free := by rw [upd_ne (Ne.symm nL)]; exact I.free
  freeC := fun x c e => by
    have : c ≠ a := fun z => by
      obtain ⟨v, oc, h1, h2⟩ := I.cell x c e
      rw [z, ha] at h1
      cases h1
      exact hd _ h2
    rw [upd_ne this]
    exact I.freeC x c e
  pin := fun p hp => by
    obtain ⟨h1, h2, h3⟩ := I.pin p hp
    exact ⟨h1, by rw [upd_ne (np p hp)]; exact h2, h3⟩
  hok := fun b u e => by
    by_cases hb : b = a
    · subst hb
      rw [upd_same] at e
      cases e
      exact new
    · rw [upd_ne hb] at e
      exact (I.hok b u e).stay (fun c v _ q => q) (fun c q => by rw [upd_ne (ne_of_none q na)]; exact q) fun c xs q => by rw [upd_ne (ne_of_none q na)]; exact q
  len := I.len
end
/-- what the clause 'except x as n: y = n' wishes of an exception of the body -/
def wKeep (K : PySem.W.Frag) (c : Value) (i j : Nat) (Wout : WX) (D : Ends) : WX := fun cls d σ H =>
  ∃ b, PySem.W.exmOne K cls c = some b ∧ (b = true → ∀ a, H a = none → D.nx ((σ.set i none).set j (some (.ref a))) (upd H a (ExT cls d a))) ∧ (b = false → Wout cls d σ H)
section
variable {X : Cx} {x n y : Str} {c : Value} {i j : Nat} {body : List Stmt} {np py pn' pa pos pos' : Pos} {tb : WX → TS} {Wout : WX}
theorem ps_try_keep (hs : X.stack = X.env :: X.outer) (hf : X.env.frame = some X.env.locals) (hex : X.ex = []) (hN : X.N.Nodup) (hi : X.N[i]? = some n) (hln : X.env.kindOf n = some .local) (hj : X.N[j]? = some y) (hly : X.env.kindOf y = some .local) (hij : i ≠ j)
    (hd1 : (n == ("__debug__" : Str)) = false) (hd2 : (n == ("__classdict__" : Str)) = false) (hc : Names X x c) (tk : Takes X Wout)
    (hb : ∀ (W : WX) (pn : List (Addr × Obj)) (xe : Value → Shared → Prop), Takes (X.tr pn xe) W → PassesOwn (model X.prog X.w) X.A X.env xe → PSs (X.tr pn xe) body (tb W)) :
    PS X (.Try body [.ExceptHandler (some (.Name x np)) (some n) [.Assign [.Name y py] (.Name n pn') pa] pos'] [] [] pos) (fun D σ H => tb (wKeep X.K c i j Wout D) D σ H) := by
  refine ⟨fun pins s σ H D I h => ?_⟩
  have ok := I.ok
  have hfr : X.A.frames = some (X.env :: X.outer) := by rw [ok.frames, hs]
  have hloc : Loc X.env.scope n := .inl hln
  refine wpAny_Try_except ?_
  refine wpAny_mono ((hb (wKeep X.K c i j Wout D) (X.pn ++ pins) (fun e s₁ => wpAny (model X.prog X.w) X.A (noteFrame e X.env) (fun _ s₂ => wpAny (model X.prog X.w) X.A (setFlight e none) (fun _ s₃ =>
    wpAny (model X.prog X.w) X.A (handleBy e X.env [.ExceptHandler (some (.Name x np)) (some n) [.Assign [.Name y py] (.Name n pn') pa] pos']) (SP X pins D) X.xe s₃) X.xe s₂) X.xe s₁) (fun u s' xx => ?_) PassesOwn.looking).run [] s σ H D (I.toTry _) h) (fun f s1 hsp => ?_) (fun e s1 he => he)
  · -- the catch
    obtain ⟨a, B, sI, pins', σ', H', cls, d, rfl, J', nb, up, sky, na, os, ag, b, hb1, hyes, hno⟩ := xx
    have J : Inv X pins σ' H' sI := J'.ofTry ok
    have sky' : Sky B (X.env :: X.outer) a (Zc cls d) X.env.locals s'.heap := by rw [← hs]; exact sky
    show wpAny (model X.prog X.w) X.A (noteFrame (.ref a) X.env) _ _ _
    refine Sky.land Zc.steady hfr hf sky' fun h3 fl3 up3 => ?_
    have J3 : Inv X pins σ' H' { s' with heap := h3 } := J.landed nb fl3.1 (up.trans up3) os ag
    obtain ⟨oe3, vs3, he3, hz3, hd3⟩ := fl3.there
    have notFr : ∀ {h : Heap} {o : Obj} {vs : Array Value}, h.FunFrames B (X.env :: X.outer) → h.get? a = some o → o.data = .fields vs → a ∉ frs (X.env :: X.outer) := fun {h o vs} ff e dd hm => by
      obtain ⟨_, o', e', hnf⟩ := ff.mem hm
      rw [e] at e'; cases e'
      exact hnf _ dd
    have nfr := notFr fl3.2.2.1 he3 hd3
    have nL : a ≠ X.env.locals := fun z => nfr (List.mem_filterMap.mpr ⟨X.env, List.mem_cons_self, by rw [hf, z]⟩)
    have nF : a ∉ X.fs := fun hm => by
      obtain ⟨e, he, q⟩ := List.mem_filterMap.mp hm
      exact nfr (List.mem_filterMap.mpr ⟨e, List.mem_cons_of_mem _ he, q⟩)
    have nB : B.get? a = none := fl3.2.1
    have nfs : a ∉ frs X.stack := by rw [hs]; exact nfr
    have nI : sI.heap.get? a = none := by
      cases q : sI.heap.get? a with
      | none => rfl
      | some o => rw [nb a o q nfs] at nB; cases nB
    have n0 : X.s_0.heap.get? a = none := by
      cases q : X.s_0.heap.get? a with
      | none => rfl
      | some o =>
        obtain ⟨o', q'⟩ := J.base.there a o q (by rw [hex]; exact fun z => nomatch z)
        rw [nI] at q'
        cases q'
    have npn : ∀ p ∈ X.pn ++ pins, p.1 ≠ a := fun p hp z => by
      obtain ⟨h1, _⟩ := J.pin p hp
      rw [z, nI] at h1
      cases h1
    have S3 := J3.suite he3 hd3 na nL nF
    refine wpAny_handleBy_cons (codeAny_handlers_test ?_) (by intro q; cases q)
    have LT : PySem.W.Looks (model X.prog X.w) h3 (typeOf (.ref a)) cls := fun A Q E s k q => wpAny_typeOf_ref (k _ _ he3) (by rw [hz3.1]; exact q)
    have LM := PySem.W.exm_one (M := model X.prog X.w) (J3.kIn) LT hb1
    have test : ∀ {Q : Value → Shared → Prop} {E : Value → Shared → Prop}, Q c { s' with heap := h3 } → wpAny (model X.prog X.w) (X.A.mark (some (.ref a))) (eval (.Name x np) X.env) Q E { s' with heap := h3 } := fun {Q E} q => by
      obtain ⟨hg, hdbg, hm | ⟨hm, hv, hnn⟩⟩ := hc
      · exact ld_glob (X := X.suite a ((a, oe3) :: (X.pn ++ pins))) S3 hg hm q hdbg
      · exact ld_blt (X := X.suite a ((a, oe3) :: (X.pn ++ pins))) S3 hg hm hv q hnn hdbg
    refine test (LM.here ?_)
    cases b with
    | true =>
      refine codeAny_handlers_suite_as ?_
      refine HandSPX.lands_againZ fl3 fun h4 fl4 up4 => ?_
      have J4 : Inv X pins σ' H' { s' with heap := h4 } := J.landed nb fl4.1 ((up.trans up3).trans up4) os ag
      obtain ⟨oe4, vs4, he4, hz4, hd4⟩ := fl4.there
      have S4 := J4.suite he4 hd4 na nL nF
      refine store_ok (X := X.suite a ((a, oe4) :: (X.pn ++ pins))) (v := .ref a) S4 hN hi hloc rfl (fun s5 S5 => ?_) (.inr hln)
      have hlt : i < σ'.length := by
        rw [J.len]
        exact (List.getElem?_eq_some_iff.mp hi).1
      refine wpAny_mono ((pss_one (ps_set (X := X.suite a ((a, oe4) :: (X.pn ++ pins))) hN hj (.inl hly) (pe_var hi (.inl hln) hd1 hd2) rfl (.inr hly))).run [] s5 _ H' { nx := fun σ6 H6 => σ6 = (σ'.set i (some (.ref a))).set j (some (.ref a)) ∧ H6 = H', rt := fun _ _ => False } S5 ⟨.ref a, by rw [List.getElem?_set_self hlt], rfl, rfl⟩) (fun f s6 hsp => ?_) (fun _ _ z => False.elim z)
      cases f with
      | next =>
        obtain ⟨σ6, H6, S6, rfl, rfl⟩ := hsp
        refine gone_ok (X := X.suite a ((a, oe4) :: (X.pn ++ pins))) S6 hN hi hln fun s7 S7 => ?_
        obtain ⟨k1, k2, k3, k4, k5⟩ := S7.pin (a, oe4) (List.mem_append_left _ List.mem_cons_self)
        have J7 : Inv X pins _ H6 s7 := S7.unsuite ok
        have new : ObjOk X.prog X.w (upd H6 a (ExT cls d a)) s7.heap a (ExT cls d a) := ⟨⟨oe4, vs4, k1, hz4, hd4⟩, ⟨oe4, k1⟩, fun _ _ ⟨o, v, q, r⟩ k => ⟨o, v, k o q, r⟩⟩
        have J8 := inv_track J7 k1 k5 k2 n0 nL npn new
        have es : ((σ'.set i (some (V.ref a))).set j (some (V.ref a))).set i none = (σ'.set i none).set j (some (.ref a)) := by
          rw [List.set_comm _ _ (Ne.symm hij), List.set_set]
        rw [es] at J8
        exact ⟨_, _, J8, hyes rfl a na⟩
      | brk => obtain ⟨_, _, _, q⟩ := hsp; exact False.elim q
      | cont => obtain ⟨_, _, _, q⟩ := hsp; exact False.elim q
      | ret u => obtain ⟨_, _, _, _, _, q⟩ := hsp; exact False.elim q
    | false =>
      show wpAny _ X.A (handleBy (.ref a) X.env []) _ _ _
      refine wpAny_handleBy_nil ?_
      obtain ⟨k1, k2, k3, oe, vs, T, oT, ts', he, hz, hd, h1, hr⟩ := id fl3
      unfold PySem.passOn
      refine wpAny_bind (wpAny_field he hd h1 ?_)
      rw [if_neg (show ¬ ((Value.ref T == Value.none) = true) from by simp)]
      have fin : wpAny (model X.prog X.w) X.A (setFlight (.ref a) X.env.frame) (fun _ s4 => wpAny (model X.prog X.w) X.A (throw (.ref a) : Sem Flow) (SP X pins D) X.xe s4) X.xe { s' with heap := h3 } := by
        rw [hf]
        refine HandSPX.setFlight_upZ fl3 fun h4 hh4 up4 => wpAny_throw (tk _ _ ?_)
        exact ⟨a, B, sI, pins, σ', H', cls, d, rfl, J, nb, (up.trans up3).trans up4, .inr (.inr (by rw [hs]; exact hh4)), na, os, ag, hno rfl⟩
      first
        | exact wpAny_bind (wpAny_pure (wpAny_bind fin))
        | exact wpAny_bind fin
  · cases f with
    | next =>
      obtain ⟨σ', H', J', q⟩ := hsp
      exact wpAny_execs_nil ⟨σ', H', J'.ofTry ok, q⟩
    | brk =>
      obtain ⟨σ', H', J', q⟩ := hsp
      exact ⟨σ', H', J'.ofTry ok, q⟩
    | cont =>
      obtain ⟨σ', H', J', q⟩ := hsp
      exact ⟨σ', H', J'.ofTry ok, q⟩
    | ret u =>
      obtain ⟨v, σ', H', J', r, q⟩ := hsp
      exact ⟨v, σ', H', J'.ofTry ok, r, q⟩
end
section
variable {L : Lk} {lv : Nat} {se : SE} {X : Cx} {W : WX}
theorem s_try (co : CallsOk L lv) (yo : YOk L lv se X) (tk : Takes X W) {b : List Stmt} {u : Blk} {x m y : Str} {C i j : Nat} {np py pn' pa pos pos' : Pos} (hx : gloOf se x = some (.own (.exc C))) (hd : sEq x "__debug__" = false) (hm1 : sEq m "__debug__" = false) (hm2 : sEq m "__classdict__" = false)
    (hi : plnOf se m = some i) (hj : plnOf se y = some j) (hmy : sEq m y = false) (ib : ∀ (W : WX) (pn : List (Addr × Obj)) (xe : Value → Shared → Prop), Takes (X.tr pn xe) W → PassesOwn (model X.prog X.w) X.A X.env xe → PSs (X.tr pn xe) b (tBk L lv u W)) :
    PS X (.Try b [.ExceptHandler (some (.Name x np)) (some m) [.Assign [.Name y py] (.Name m pn') pa] pos'] [] [] pos) (tS L lv (.try_ u C i j) W) := by
  obtain ⟨gy, ly⟩ := glo_own yo.x hx
  have E := co.exc x C ly
  have ix : ∀ {z : Str} {l : Nat}, plnOf se z = some l → X.N[l]? = some z ∧ X.env.kindOf z = some .local := fun {z l} q => by
    unfold plnOf at q
    split at q
    · rename_i e
      exact ⟨by rw [yo.x.N]; exact ixOf_get q, by show X.env.scope.names.lookup z = _; rw [yo.x.sc, ← lkS_eq]; exact e⟩
    · cases q
  obtain ⟨i1, i2⟩ := ix hi
  obtain ⟨j1, j2⟩ := ix hj
  have hij : i ≠ j := fun e => by
    rw [e, j1] at i1
    injection i1 with q
    exact sNe' hmy q.symm
  refine PS.imp (ps_try_keep (c := .ref (L.G.cA C)) yo.hs yo.hf yo.ex yo.x.nd i1 i2 j1 j2 hij (sNe hm1) (sNe hm2) ⟨gy, sNe hd, .inl (by rw [yo.x.mg]; exact E)⟩ tk ib) fun D σ H ⟨F, e, S, R, o⟩ => ⟨F, e, S, R, ?_⟩
  rw [execS] at o
  cases q : execB (clI L.pg lv) u e with
  | nx e1 => rw [q] at o; exact o
  | bk e1 => rw [q] at o; exact o
  | ct e1 => rw [q] at o; exact o
  | rt v e1 => rw [q] at o; exact o
  | no => rw [q] at o; exact o
  | ex D' t e1 =>
    rw [q] at o
    cases t with
    | some t => exact o.elim
    | none =>
      intro σ' H' S' R'
      have o : OutR L F W D (match (clI L.pg lv).sub D' C with
        | some true => .nx ((e1.set i none).set j (some (.sh (.exc D' none))))
        | some false => .ex D' none e1
        | none => .no) := o
      show ∃ b, _
      cases hk : (clI L.pg lv).sub D' C with
      | none => rw [hk] at o; exact o.elim
      | some k =>
        rw [hk] at o
        obtain ⟨_, _, _, c4⟩ := co.sub D' C k hk
        refine ⟨k, by rw [yo.x.K]; exact c4, fun e2 a na => ?_, fun e2 => ?_⟩
        · subst e2
          have g := Grow.add (p := a) (o := ExT (.ref (L.G.cA D')) none a) R'.sub na
          exact o _ _ _ (((R'.mono g).drop (i := i) (o := none)).putS (RepS.exc upd_same))
        · subst e2
          exact o σ' H' S' R'
/-! ### every statement -/
structure SndS (L : Lk) (lv n : Nat) : Prop where
  s : ∀ {se : SE} {X : Cx} {W : WX} {st : Stmt} {m : Stm}, YOk L lv se X → Takes X W → cS n se st = some m → PS X st (tS L lv m W)
  b : ∀ {se : SE} {X : Cx} {W : WX} {st : List Stmt} {m : Blk}, YOk L lv se X → Takes X W → cB n se st = some m → PSs X st (tBk L lv m W)
theorem ex_of (co : CallsOk L lv) (yo : YOk L lv se X) (tk : Takes X W) {n : Nat} {e : Expr} {m : Ex} (h : cE n se e = some m) : PE X e (tE L lv m W) := ((snd_all co n).e yo.x tk h).1
theorem et_of (co : CallsOk L lv) (yo : YOk L lv se X) (tk : Takes X W) {n : Nat} {e : Expr} {m : Ex} (h : cE n se e = some m) : PT X e (tT L lv m W) := ((snd_all co n).e yo.x tk h).2
theorem slot_none {e : Env} {i : Nat} : slot (e.set i none) i = none := by
  cases z : slot (e.set i none) i with
  | none => rfl
  | some sv =>
    rcases slot_set z with ⟨_, z1⟩ | ⟨z1, _⟩
    · cases z1
    · exact absurd rfl z1
theorem runQ_bk {cl : Cl} {i : Nat} {o : Option Dv} {e1 : Env} : ∀ (q : Qs) {e : Env}, runQ cl i o q e ≠ .bk e1
  | .nil, e, h => by rw [runQ] at h; cases h
  | .asg j a q, e, h => by
    rw [runQ] at h
    split at h
    · exact runQ_bk q h
    · cases h
    · cases h
  | .ret c a q, e, h => by
    rw [runQ] at h
    split at h
    · split at h <;> cases h
    · exact runQ_bk q h
    · cases h
    · cases h
theorem runQ_ct {cl : Cl} {i : Nat} {o : Option Dv} {e1 : Env} : ∀ (q : Qs) {e : Env}, runQ cl i o q e ≠ .ct e1
  | .nil, e, h => by rw [runQ] at h; cases h
  | .asg j a q, e, h => by
    rw [runQ] at h
    split at h
    · exact runQ_ct q h
    · cases h
    · cases h
  | .ret c a q, e, h => by
    rw [runQ] at h
    split at h
    · split at h <;> cases h
    · exact runQ_ct q h
    · cases h
    · cases h
/-! ### a told value whose lists are nobody else's -/
theorem shE_sl : ∀ {e : Env} {i : Nat} {sv : Sv}, shE e = true → slot e i = some sv → ∃ d, sv = .sh d
  | none :: e, 0, sv, _, h => by cases h
  | none :: e, i + 1, sv, k, h => shE_sl (e := e) (i := i) k h
  | some (.sh d) :: e, 0, sv, _, h => by cases h; exact ⟨d, rfl⟩
  | some (.sh d) :: e, i + 1, sv, k, h => shE_sl (e := e) (i := i) k h
theorem shE_set : ∀ {e : Env} {i : Nat} {o : Option Sv}, shE e = true → (∀ sv, o = some sv → ∃ d, sv = .sh d) → shE (e.set i o) = true
  | [], i, o, _, _ => rfl
  | none :: e, 0, o, k, h => by
    cases o with
    | none => exact k
    | some sv => obtain ⟨d, rfl⟩ := h sv rfl; exact k
  | some (.sh d) :: e, 0, o, k, h => by
    cases o with
    | none => exact k
    | some sv => obtain ⟨d, rfl⟩ := h sv rfl; exact k
  | none :: e, i + 1, o, k, h => shE_set (e := e) (i := i) k h
  | some (.sh d) :: e, i + 1, o, k, h => shE_set (e := e) (i := i) k h
/-- the told value, its lists new and its own -/
def Told (L : Lk) (F : Fm) (i : Nat) (x : Dv) (e : Env) (σ : L2.St) (H S : Hp) : Prop :=
  ∃ v T, σ[i]? = some (some v) ∧ slot e i = none ∧ RepS L.G T v x ∧ Sub T H ∧ (∀ a o, T a = some o → lsty o = true → S a = none ∧ F.H0 a = none ∧ Pl o) ∧ (∀ a o, T a = some o → S a = some o ∨ (F.H0 a = none ∧ Pl o))
theorem Told.mono {F : Fm} {i : Nat} {x : Dv} {e : Env} {σ : L2.St} {H S H' S' : Hp} (t : Told L F i x e σ H S) (g : Grow H S H' S') : Told L F i x e σ H' S' := by
  obtain ⟨v, T, h1, h2, h3, h4, h5, h6⟩ := t
  refine ⟨v, T, h1, h2, h3, h4.trans g.h, fun a o ha hl => ?_, fun a o ha => ?_⟩
  · obtain ⟨k1, k2, k3⟩ := h5 a o ha hl
    exact ⟨g.none (h4 _ _ ha) k1, k2, k3⟩
  · rcases h6 a o ha with k | k
    · exact .inl (g.s _ _ k)
    · exact .inr k
theorem Told.lend {F : Fm} {i : Nat} {x : Dv} {e : Env} {σ : L2.St} {H S : Hp} (t : Told L F i x e σ H S) (R : Rel L.G F e σ H S) (k : shE e = true) : ∃ T, Sub S T ∧ Rel L.G F (e.set i (some (.sh x))) σ H T := by
  obtain ⟨v, T, h1, h2, h3, h4, h5, h6⟩ := t
  refine ⟨uni S T, uni_l, {
    sub := fun a o h => by
      rcases uni_at h with h | ⟨_, h⟩
      · exact R.sub _ _ h
      · exact h4 _ _ h
    old := R.old
    keep := R.keep
    s0 := R.s0.trans uni_l
    new := fun a o h => by
      rcases uni_at h with h | ⟨hn, h⟩
      · exact R.new a o h
      · rcases h6 a o h with z | z
        · rw [hn] at z; cases z
        · exact .inr z
    len := by rw [List.length_set]; exact R.len
    sl := fun j sv h => by
      rcases slot_set h with ⟨rfl, e1⟩ | ⟨_, e1⟩
      · cases e1
        exact ⟨v, h1, RepS.mono (uni_r R.sub h4) h3⟩
      · obtain ⟨u, k1, k2⟩ := R.sl j sv e1
        obtain ⟨d, rfl⟩ := shE_sl k e1
        exact ⟨u, k1, RepS.mono uni_l k2⟩
    ap := fun a b sv sw u w c _ h1 _ _ _ h5 _ => by
      obtain ⟨d, rfl⟩ := shE_sl (shE_set k fun sv q => by cases q; exact ⟨x, rfl⟩) h1
      cases h5 }⟩
def TO (L : Lk) (F : Fm) (i : Nat) (o : Option Dv) (e : Env) (σ : L2.St) (H S : Hp) : Prop := match o with
  | some x => Told L F i x e σ H S
  | none => True
theorem TO.mono {F : Fm} {i : Nat} {o : Option Dv} {e : Env} {σ : L2.St} {H S H' S' : Hp} (t : TO L F i o e σ H S) (g : Grow H S H' S') : TO L F i o e σ H' S' := by
  cases o with
  | none => trivial
  | some x => exact Told.mono t g
theorem TO.lend {F : Fm} {i : Nat} {o : Option Dv} {e : Env} {σ : L2.St} {H S : Hp} (t : TO L F i o e σ H S) (R : Rel L.G F e σ H S) (k : shE e = true) : ∃ T, Sub S T ∧ Rel L.G F (lndE i o e) σ H T := by
  cases o with
  | none => exact ⟨S, .refl S, R⟩
  | some x => exact Told.lend t R k
def OutQ (L : Lk) (F : Fm) (W : WX) (D : Ends) (i : Nat) (o : Option Dv) (r : Rt) : Prop := match r with
  | .nx e => ∀ σ' H' S', Rel L.G F e σ' H' S' → shE e = true → TO L F i o e σ' H' S' → D.nx σ' H'
  | .rt sv e => ∀ v σ' H' S', Rel L.G F e σ' H' S' → Own L.G F H' S' v sv → D.rt v H'
  | .ex C t e => ∀ σ' H' S', Rel L.G F e σ' H' S' → ExW L.G W σ' H' C t
  | _ => False
def tQ (L : Lk) (lv i : Nat) (q : Qs) (W : WX) : TS := fun D σ H => ∃ o F e S, Rel L.G F e σ H S ∧ shE e = true ∧ TO L F i o e σ H S ∧ OutQ L F W D i o (runQ (clI L.pg lv) i o q e)
theorem s_q (co : CallsOk L lv) (yo : YOk L lv se X) (tk : Takes X W) {n i : Nat} : ∀ {st : List Stmt} {q : Qs}, cQ n se i st = some q → PSs X st (tQ L lv i q W) := by
  intro st
  induction st with
  | nil =>
    intro q h
    unfold cQ at h
    cases h
    refine PSs.imp pss_nil fun D σ H ⟨o, F, e, S, R, k, t, out⟩ => ?_
    rw [runQ] at out
    exact out σ H S R k t
  | cons a r ih =>
    intro q h
    unfold cQ at h
    split at h
    · rename_i e0
      cases e0
    · rename_i x px v pos r' e0
      cases e0
      split at h
      · rename_i j m q' hj hm hq
        split at h
        · cases h
        · rename_i hc
          cases h
          obtain ⟨c1, c2⟩ := or_f hc
          have hij : i ≠ j := fun z => by rw [z, Nat.beq_refl] at c2; cases c2
          obtain ⟨p1, p2, p3⟩ := yo.stores x j hj
          refine PSs.imp (pss_cons (ps_set yo.x.nd p1 p2 (ex_of co yo tk hm) (noswap hm c1 _ _ _) p3) (ih hq)) fun D σ H ⟨o, F, e, S, R, k, t, out⟩ => ?_
          rw [runQ] at out
          refine ⟨F, e, S, R, ?_⟩
          cases ev : evalE (clI L.pg lv) m e with
          | no => rw [ev] at out; exact out.elim
          | ex C t' =>
            rw [ev] at out
            exact fun H1 S1 g => out σ H1 S1 (R.mono g)
          | ok sv =>
            rw [ev] at out
            cases sv with
            | sh d =>
              intro u H1 S1 g ru
              have R1 := (R.mono g).putS (i := j) ru
              refine ⟨o, F, _, S1, R1, shE_set k fun sv z => by cases z; exact ⟨d, rfl⟩, ?_, out⟩
              cases o with
              | none => trivial
              | some x =>
                obtain ⟨v, T, h1, h2, h3, h4, h5, h6⟩ := Told.mono t g
                refine ⟨v, T, by rw [List.getElem?_set_ne (Ne.symm hij)]; exact h1, ?_, h3, h4, h5, h6⟩
                cases z : slot (e.set j (some (.sh d))) i with
                | none => rfl
                | some sv =>
                  rcases slot_set z with ⟨z1, _⟩ | ⟨_, z1⟩
                  · exact absurd z1 hij
                  · rw [h2] at z1; cases z1
            | _ => exact out.elim
      · cases h
    · rename_i c v p1 p2 r' e0
      cases e0
      split at h
      · rename_i x m q' hx hm hq
        cases h
        refine PSs.imp (pss_cons (ps_if (et_of co yo tk hx) (pss_one (ps_ret (ex_of co yo tk hm))) pss_nil) (ih hq)) fun D σ H ⟨o, F, e, S, R, k, t, out⟩ => ?_
        rw [runQ] at out
        obtain ⟨T, sT, RT⟩ := t.lend R k
        refine ⟨F, _, T, RT, ?_⟩
        have back : ∀ {H1 S1 : Hp}, Grow H T H1 S1 → Grow H S H1 S := fun {H1 S1} g => ⟨g.h, .refl S, R.sub.trans g.h, fun _ _ z => .inl z⟩
        unfold evalT at out
        cases ev : evalE (clI L.pg lv) x (lndE i o e) with
        | no => rw [ev] at out; exact out.elim
        | ex C t' =>
          rw [ev] at out
          exact fun H1 S1 g => out σ H1 S (R.mono (back g))
        | ok sv =>
          rw [ev] at out
          have out : OutQ L F W D i o (match (match sv.toD with
            | .bl k => Rs.ok k
            | _ => .no) with
            | .ok true => (match evalE (clI L.pg lv) m e with
              | .ok (.sh d) => .rt (.sh d) e
              | .ex C t => .ex C t e
              | _ => .no)
            | .ok false => runQ (clI L.pg lv) i o q' e
            | .ex C t => .ex C t e
            | .no => .no) := out
          show ∃ b, _
          cases hd : sv.toD with
          | bl b =>
            rw [hd] at out
            refine ⟨b, rfl, fun H1 S1 g => ?_⟩
            have R1 := R.mono (back g)
            have t1 := t.mono (back g)
            cases b with
            | true =>
              show tRet (tE L lv m W) { D with nx := tQ L lv i q' W D } σ H1
              have out : OutQ L F W D i o (match evalE (clI L.pg lv) m e with
                | .ok (.sh d) => .rt (.sh d) e
                | .ex C t => .ex C t e
                | _ => .no) := out
              refine ⟨F, e, S, R1, ?_⟩
              cases ev2 : evalE (clI L.pg lv) m e with
              | no => rw [ev2] at out; exact out.elim
              | ex C t' =>
                rw [ev2] at out
                exact fun H2 S2 g2 => out σ H2 S2 (R1.mono g2)
              | ok sw =>
                rw [ev2] at out
                cases sw with
                | sh d => exact fun u H2 S2 g2 ru => out u σ H2 S2 (R1.mono g2) ru
                | _ => exact out.elim
            | false =>
              show tQ L lv i q' W D σ H1
              exact ⟨o, F, e, S, R1, k, t1, out⟩
          | _ => rw [hd] at out; exact out.elim
      · cases h
    · cases h
theorem Rel.undoT {F : Fm} {e : Env} {σ1 σ2 : L2.St} {H S T H3 : Hp} {own : List Nat} (R : Rel L.G F e σ1 H S) (k : shE e = true) (h5 : ∀ a o, T a = some o → lsty o = true → S a = none ∧ F.H0 a = none ∧ Pl o) (J : JK T H H3) (sm : Same own σ1 σ2) : Rel L.G F (wipeE own e) σ2 H3 S := by
  have base : Rel L.G F e σ1 H3 S := {
    sub := fun a o h => by
      rw [J.eq a fun xs z => by rw [(h5 _ _ z rfl).1] at h; cases h]
      exact R.sub _ _ h
    old := fun a o m h => by
      rw [J.eq a fun xs z => by rw [(h5 _ _ z rfl).2.1] at h; cases h]
      exact R.old a o m h
    keep := fun a h z => by
      cases q : T a with
      | none =>
        rw [J.eq a fun xs z => by rw [q] at z; cases z] at z
        exact R.keep a h z
      | some o =>
        by_cases hl : ∃ xs, o = .lst xs
        · obtain ⟨xs, rfl⟩ := hl
          exact h (h5 _ _ q rfl).2.1
        · rw [J.eq a fun xs z => hl ⟨xs, by rw [q] at z; cases z; rfl⟩] at z
          exact R.keep a h z
    s0 := R.s0
    new := R.new
    len := R.len
    sl := fun i sv h => by
      obtain ⟨v, h1, h2⟩ := R.sl i sv h
      obtain ⟨d, rfl⟩ := shE_sl k h
      exact ⟨v, h1, h2⟩
    ap := fun a b sv sw u w c _ h1 _ _ _ h5 _ => by
      obtain ⟨d, rfl⟩ := shE_sl k h1
      cases h5 }
  have R3 := base.wipe own
  rw [← wipe_same sm] at R3
  exact {
    sub := R3.sub
    old := R3.old
    keep := R3.keep
    s0 := R3.s0
    new := R3.new
    len := by rw [R3.len, wipe_length]
    sl := fun i sv h => by
      obtain ⟨v, hv, r⟩ := R3.sl i sv h
      refine ⟨v, ?_, r⟩
      by_cases hi : i ∈ own
      · by_cases hl : i < σ2.length
        · rw [wipe_in hi hl] at hv; cases hv
        · rw [List.getElem?_eq_none (by rw [wipe_length]; omega)] at hv; cases hv
      · rw [wipe_out hi] at hv
        exact hv
    ap := fun i j sv sw v w a hij h1 h2 h3 h4 h5 h6 => by
      obtain ⟨v', hv', r'⟩ := R3.sl i sv h1
      obtain ⟨w', hw', q'⟩ := R3.sl j sw h2
      have kk : ∀ {i : Nat} {v v' : V}, (L2.wipe σ2 own)[i]? = some (some v') → σ2[i]? = some (some v) → v' = v := fun {i v v'} h1 h2 => by
        by_cases hi : i ∈ own
        · by_cases hl : i < σ2.length
          · rw [wipe_in hi hl] at h1; cases h1
          · rw [List.getElem?_eq_none (by rw [wipe_length]; omega)] at h1; cases h1
        · rw [wipe_out hi, h2] at h1
          cases h1
          rfl
      have e1 := kk hv' h3
      have e2 := kk hw' h4
      subst e1 e2
      exact R3.ap i j sv sw _ _ a hij h1 h2 hv' hw' h5 h6 }
theorem s_lnd (co : CallsOk L lv) (yo : YOk L lv se X) (tk : Takes X W) {n : Nat} {B K R : List Stmt} {l : Lnd} {xs : Blk} {d : Kx} (hl : cLnd n se B = some l) (ik : PSs X K (tK L (callK (L.pg.kfI lv)) d)) (ir : PSs X R (tBk L lv xs W)) : PSs X (B ++ (K ++ R)) (tBk L lv (.cons (.lnd l.i l.a l.C l.m l.j l.q d) xs) W) := by
  unfold cLnd at hl
  split at hl
  rotate_left
  · cases hl
  rename_i t0 pt v pa x px mm y py m2 pn' pa2 pos' pos r
  split at hl
  rotate_left
  · cases hl
  rename_i i a C k j hi ha hC hk hj
  split at hl
  rotate_left
  · cases hl
  rename_i q hq
  split at hl
  rotate_left
  · cases hl
  rename_i hc
  cases hl
  obtain ⟨hc, c8⟩ := and_t hc
  obtain ⟨hc, c7⟩ := and_t hc
  obtain ⟨hc, c6⟩ := and_t hc
  obtain ⟨hc, c5⟩ := and_t hc
  obtain ⟨hc, c4⟩ := and_t hc
  obtain ⟨hc, c3⟩ := and_t hc
  obtain ⟨c1, c2⟩ := and_t hc
  cases (sEq_iff _ _).mp c1
  have hij : i ≠ j := fun z => by rw [z, Nat.beq_refl] at c7; cases c7
  have hik : i ≠ k := fun z => by rw [z, Nat.beq_refl] at c8; cases c8
  obtain ⟨gy, ly⟩ := glo_own yo.x hC
  have E := co.exc x C ly
  have ix : ∀ {z : Str} {l : Nat}, plnOf se z = some l → X.N[l]? = some z ∧ X.env.kindOf z = some .local := fun {z l} q => by
    unfold plnOf at q
    split at q
    · rename_i e
      exact ⟨by rw [yo.x.N]; exact ixOf_get q, by show X.env.scope.names.lookup z = _; rw [yo.x.sc, ← lkS_eq]; exact e⟩
    · cases q
  obtain ⟨i1, i2⟩ := ix hk
  obtain ⟨j1, j2⟩ := ix hj
  have hkj : k ≠ j := fun e => by
    rw [e, j1] at i1
    injection i1 with q
    exact sNe' (by simpa using c5) q.symm
  have ib : ∀ (W : WX) (pn : List (Addr × Obj)) (xe : Value → Shared → Prop), Takes (X.tr pn xe) W → PassesOwn (model X.prog X.w) X.A X.env xe → PSs (X.tr pn xe) [.Assign [.Name t0 pt] v pa] (tAsg (tE L lv a W) (gName i)) := fun W pn xe tk' hp => by
    obtain ⟨p1, p2, p3⟩ := (yo.tr hp).stores t0 i hi
    exact pss_one (ps_set (yo.tr (pn := pn) hp).x.nd p1 p2 (ex_of co (yo.tr hp) tk' ha) (noswap ha (by simpa using c6) _ _ _) p3)
  refine PSs.imp (pss_app (pss_cons (ps_try_keep (c := .ref (L.G.cA C)) yo.hs yo.hf yo.ex yo.x.nd i1 i2 j1 j2 hkj (sNe (by simpa using c3)) (sNe (by simpa using c4)) ⟨gy, sNe (by simpa using c2), .inl (by rw [yo.x.mg]; exact E)⟩ tk ib) (s_q co yo tk hq)) (pss_app ik ir)) fun D σ H ⟨F, e, S, R0, o⟩ => ?_
  rw [execB, execS] at o
  by_cases sE' : (shE e && (slot e i).isSome) = true
  rotate_left
  · rw [if_neg sE'] at o
    exact o.elim
  rw [if_pos sE'] at o
  obtain ⟨sE, sI⟩ := and_t sE'
  have li : i < σ.length := by
    rw [← R0.len]
    cases z : slot e i with
    | none => rw [z] at sI; cases sI
    | some sv => exact slot_lt z
  refine ⟨⟨H, noS S, []⟩, noLE e, noS S, R0.enter, ?_⟩
  have back : ∀ {H1 S1 : Hp}, Grow H (noS S) H1 S1 → Grow H S H1 S := fun {H1 S1} g => ⟨g.h, .refl S, R0.sub.trans g.h, fun _ _ z => .inl z⟩
  cases ev : evalE (clI L.pg lv) a (noLE e) with
  | no => rw [ev] at o; exact o.elim
  | ok sv =>
    rw [ev] at o
    cases sv with
    | sh x =>
      intro u H1 T g ru
      have R1 := R0.mono (back g)
      have o : OutR L F W D ((match runQ (clI L.pg lv) i (some x) q (e.set i none) with
        | .nx e1 => if okK (callK (L.pg.kfI lv)) true d (fun k => if k = i then some x else none) then Rt.nx (wipeE (tgK d) e1) else .no
        | r => r).then fun e1 => execB (clI L.pg lv) xs e1) := o
      refine ⟨some x, F, _, S, R1.drop (i := i) (o := some u), shE_set sE (fun sv z => nomatch z), ⟨u, T, by rw [List.getElem?_set_self li], slot_none, ru, g.sub, fun b ob hb hl => ?_, fun b ob hb => ?_⟩, ?_⟩
      · rcases g.new b ob hb with z | ⟨z, pl⟩
        · rw [(noS_at z).2] at hl; cases hl
        · exact ⟨R0.sub.none z, free_of R0 z, pl⟩
      · rcases g.new b ob hb with z | ⟨z, pl⟩
        · exact .inl (noS_sub _ _ z)
        · exact .inr ⟨free_of R0 z, pl⟩
      · cases hq' : runQ (clI L.pg lv) i (some x) q (e.set i none) with
        | nx e1 =>
          rw [hq'] at o
          intro σ1 H2 S2 R2 k2 t2
          obtain ⟨v2, T2, h1, h2, h3, h4, h5, h6⟩ := t2
          have o : OutR L F W D ((if okK (callK (L.pg.kfI lv)) true d (fun k => if k = i then some x else none) then Rt.nx (wipeE (tgK d) e1) else .no).then fun e1 => execB (clI L.pg lv) xs e1) := o
          split at o
          · rename_i ok
            refine ⟨T2, H2, _, true, ⟨h4, .refl h4, fun _ => rfl, fun b db hb => ?_⟩, ok, fun σ3 H3 J sm => ⟨F, _, _, R2.undoT k2 h5 J sm, o⟩⟩
            have hb : (if b = i then some x else none) = some db := hb
            split at hb
            · rename_i e0
              cases hb
              subst e0
              exact ⟨v2, h1, RepS.k (fun a o u z => (h5 _ _ z rfl).2.2 _ _ rfl) co.nol h3⟩
            · cases hb
          · exact o.elim
        | rt sv e1 => rw [hq'] at o; exact o
        | ex C t e1 => rw [hq'] at o; exact o
        | bk e1 => exact absurd hq' (runQ_bk _)
        | ct e1 => exact absurd hq' (runQ_ct _)
        | no => rw [hq'] at o; exact o.elim
    | _ => exact o.elim
  | ex D' t =>
    rw [ev] at o
    cases t with
    | some t => exact o.elim
    | none =>
      intro H1 S1 g
      have R1 := R0.mono (back g)
      have o : OutR L F W D ((match L.pg.sub D' C with
        | some true => (match runQ (clI L.pg lv) i none q ((e.set k none).set j (some (.sh (.exc D' none)))) with
          | .nx _ => Rt.no
          | r => r)
        | some false => .ex D' none e
        | none => .no).then fun e1 => execB (clI L.pg lv) xs e1) := o
      show ∃ b, _
      cases hs : L.pg.sub D' C with
      | none => rw [hs] at o; exact o.elim
      | some b =>
        rw [hs] at o
        obtain ⟨_, _, _, c9⟩ := co.sub D' C b hs
        refine ⟨b, by rw [yo.x.K]; exact c9, fun e2 a na => ?_, fun e2 => ?_⟩
        · subst e2
          have g2 := Grow.add (p := a) (o := ExT (.ref (L.G.cA D')) none a) R1.sub na
          have o : OutR L F W D ((match runQ (clI L.pg lv) i none q ((e.set k none).set j (some (.sh (.exc D' none)))) with
            | .nx _ => Rt.no
            | r => r).then fun e1 => execB (clI L.pg lv) xs e1) := o
          refine ⟨none, F, _, _, ((R1.mono g2).drop (i := k) (o := none)).putS (RepS.exc upd_same), shE_set (shE_set sE (fun sv z => nomatch z)) (fun sv z => by cases z; exact ⟨_, rfl⟩), trivial, ?_⟩
          cases hq' : runQ (clI L.pg lv) i none q ((e.set k none).set j (some (.sh (.exc D' none)))) with
          | nx e1 => rw [hq'] at o; exact o.elim
          | rt sv e1 => rw [hq'] at o; exact o
          | ex C t e1 => rw [hq'] at o; exact o
          | bk e1 => exact absurd hq' (runQ_bk _)
          | ct e1 => exact absurd hq' (runQ_ct _)
          | no => rw [hq'] at o; exact o.elim
        · subst e2
          exact o σ H1 S R1
theorem snd_s {n : Nat} (co : CallsOk L lv) (I : SndS L lv n) {st : Stmt} {m : Stm} (yo : YOk L lv se X) (tk : Takes X W) (h : cS (n + 1) se st = some m) : PS X st (tS L lv m W) := by
  unfold cS at h
  split at h
  · -- name = ..
    rename_i x px v pos
    split at h
    · rename_i i e hi he
      split at h
      · rename_i hl
        split at h
        · unfold cNew2 at h
          split at h
          · cases h
            exact s_new2 co yo tk hi he hl
          · cases h
        · cases h
          cases hv : isLc v with
          | false => exact s_set yo hi he hv (ex_of co yo tk he)
          | true =>
            cases v <;> first | cases hv | skip
            exact s_setC co yo tk hi he hl
      · cases h
    · rename_i i hi he
      split at h
      rotate_left
      · unfold asgFx at h
        split at h
        · cases h
        · rename_i hl
          split at h
          · rename_i t m' ht hm
            cases ht
            cases h
            exact s_asgF yo hi (by simpa using hl) hm ((sndfs_all co n).f yo.x tk hm)
          · cases h
      rename_i s hs
      have hss : s = m := Option.some.inj h
      subst hss
      have h := hs
      unfold cPop at h
      split at h
      · rename_i y py m pm args pc
        split at h
        · cases h
        · rename_i hd
          obtain ⟨hd, d4⟩ := or_f hd
          obtain ⟨hd, d3⟩ := or_f (by rw [hd]; exact Bool.false_ne_true)
          obtain ⟨d1, d2⟩ := or_f (by rw [hd]; exact Bool.false_ne_true)
          have hl : (pm.endLine == pc.line) = true := by
            rw [beq_iff_eq]
            exact Nat.eq_of_beq_eq_true (by simpa using d1)
          have hm : sEq m "pop" = true := by simpa using d2
          cases sEqs hm
          split at h
          · rename_i j hj
            split at h
            · cases h
            · cases h
              exact s_pop0 yo hi hj d3 d4 hl
          · rename_i j a hj
            split at h
            · rename_i ma hma
              split at h
              · cases h
              · cases h
                exact s_pop1 yo hi hj d3 d4 hl hma (ex_of co yo tk hma)
            · cases h
          · cases h
      · cases h
    · cases h
  · -- a, b = c, d
    rename_i ts k p vs k2 p2 pos
    split at h
    · rename_i hp
      split at h
      · rename_i x px y py a b
        split at h
        · rename_i i j u v hi hj hu hv
          cases h
          exact s_par yo hp hi hj hu hv (ex_of co yo tk hu) (ex_of co yo tk hv)
        · cases h
      · cases h
    · cases h
  · -- a, b = e
    rename_i ts k p v pos hne
    split at h
    · rename_i t e ht he
      cases h
      exact s_tup yo ht he (fun vs k q z => hne vs k q z) (ex_of co yo tk he)
    · rename_i t ht he
      unfold asgFx at h
      split at h
      · cases h
      · split at h
        · rename_i t' m' ht' hm
          cases ht'
          cases h
          exact s_tupF yo ht hm (fun vs k q z => hne vs k q z) ((sndfs_all co n).f yo.x tk hm)
        · cases h
    · cases h
  · -- a field
    split at h
    · rename_i j e hi hf he
      split at h
      · cases h
      · rename_i hd
        obtain ⟨d1, d2⟩ := or_f hd
        cases h
        exact s_setf co yo hi d1 d2 hf he (ex_of co yo tk he)
    · cases h
  · -- an item
    split at h
    · cases h
    split at h
    · rename_i i y e hi hy he
      split at h
      · cases h
      · rename_i hd
        obtain ⟨d1, d2⟩ := or_f hd
        cases h
        exact s_seti yo hi d1 d2 he (ex_of co yo tk hy) (ex_of co yo tk he)
    · cases h
  · split at h
    · rename_i i e hi he
      cases h
      exact s_aug yo hi (ex_of co yo tk he)
    · cases h
  · -- a method of a list
    rename_i x px mm pm args pc pos
    split at h
    · split at h
      · rename_i e he
        cases h
        exact s_expr he rfl (ex_of co yo tk he)
      · cases h
    split at h
    · cases h
    · rename_i hc
      obtain ⟨c1, c2⟩ := or_f hc
      have hl : (pm.endLine == pc.line) = true := by
        rw [beq_iff_eq]
        exact Nat.eq_of_beq_eq_true (by simpa using c1)
      split at h
      · rename_i i op es hi hop hes
        split at h
        · cases h
        · rename_i hd
          obtain ⟨d1, d2⟩ := or_f hd
          cases h
          unfold mopOf at hop
          split at hop
          · rename_i hm
            cases sEqs hm
            split at hop
            · rename_i hn
              cases hop
              match args, hn with
              | [a], _ =>
                cases n with
                | zero => unfold cEs at hes; cases hes
                | succ n =>
                  unfold cEs at hes
                  cases ha : cE n se a with
                  | none => rw [ha] at hes; cases hes
                  | some ma =>
                    rw [ha] at hes
                    have e2 : cEs n se [] = some .nil := by cases n <;> rfl
                    rw [e2] at hes
                    cases hes
                    exact s_app yo hi d1 d2 hl ha (ex_of co yo tk ha)
              | [], hn => cases hn
              | _ :: _ :: _, hn => simp at hn
            · cases hop
          · split at hop
            · rename_i hm
              cases sEqs hm
              split at hop
              · rename_i hn
                cases hop
                match args, hn with
                | [a, b], _ =>
                  cases n with
                  | zero => unfold cEs at hes; cases hes
                  | succ n =>
                    have hes0 := hes
                    unfold cEs at hes
                    cases ha : cE n se a with
                    | none => rw [ha] at hes; cases hes
                    | some ma =>
                      cases h2 : cEs n se [b] with
                      | none => rw [ha, h2] at hes; cases hes
                      | some mr =>
                        rw [ha, h2] at hes
                        cases hes
                        cases n with
                        | zero => unfold cEs at h2; cases h2
                        | succ n =>
                          unfold cEs at h2
                          cases hb : cE n se b with
                          | none => rw [hb] at h2; cases h2
                          | some mb =>
                            rw [hb] at h2
                            have e2 : cEs n se [] = some .nil := by cases n <;> rfl
                            rw [e2] at h2
                            cases h2
                            exact s_ins yo hi d1 d2 hl hes0 ha hb (ex_of co yo tk ha) (ex_of co yo tk hb)
                | [], hn => cases hn
                | [_], hn => simp at hn
                | _ :: _ :: _ :: _, hn => simp at hn
              · cases hop
            · split at hop
              · rename_i hm
                cases sEqs hm
                split at hop
                · rename_i hn
                  cases hop
                  match args, hn with
                  | [], _ =>
                    cases nil_ms hes
                    exact s_clr yo hi d1 d2 hl
                  | _ :: _, hn => simp at hn
                · cases hop
              · split at hop
                · rename_i hm
                  cases sEqs hm
                  split at hop
                  · rename_i hn
                    cases hop
                    match args, hn with
                    | [], _ =>
                      cases nil_ms hes
                      exact s_rev yo hi d1 d2 hl
                    | _ :: _, hn => simp at hn
                  · cases hop
                · cases hop
      · rename_i i e hi hop hes
        split at h
        · cases h
        · rename_i hd
          obtain ⟨d12, d3⟩ := or_f hd
          obtain ⟨d1, d2⟩ := or_f (by rw [d12]; exact Bool.false_ne_true)
          cases h
          have hm : sEq mm "extend" = true := by simpa using d3
          cases sEqs hm
          match args, hes with
          | [a], hes =>
            cases n with
            | zero => unfold cEs at hes; cases hes
            | succ n =>
              unfold cEs at hes
              cases ha : cE n se a with
              | none => rw [ha] at hes; cases hes
              | some ma =>
                rw [ha] at hes
                have e2 : cEs n se [] = some .nil := by cases n <;> rfl
                rw [e2] at hes
                cases hes
                exact s_ext yo hi d1 d2 hl ha (ex_of co yo tk ha)
          | [], hes => unfold cEs at hes; cases hes
          | a :: b :: r, hes =>
            exfalso
            cases n with
            | zero => unfold cEs at hes; cases hes
            | succ n =>
              unfold cEs at hes
              cases ha : cE n se a with
              | none => rw [ha] at hes; cases hes
              | some ma =>
                cases hb : cEs n se (b :: r) with
                | none => rw [ha, hb] at hes; cases hes
                | some mb =>
                  rw [ha, hb] at hes
                  cases hes
                  cases n with
                  | zero => unfold cEs at hb; cases hb
                  | succ n =>
                    unfold cEs at hb
                    cases h1 : cE n se b <;> cases h2 : cEs n se r <;> rw [h1, h2] at hb <;> cases hb
      · cases h
  · -- an item's method
    rename_i x px k sp m pm args pc pos
    split at h
    · split at h
      · rename_i e he
        cases h
        exact s_expr he rfl (ex_of co yo tk he)
      · cases h
    · split at h
      · cases h
      · rename_i hd
        obtain ⟨hd, d5⟩ := or_f hd
        obtain ⟨hd, d4⟩ := or_f (by rw [hd]; exact Bool.false_ne_true)
        obtain ⟨hd, d3⟩ := or_f (by rw [hd]; exact Bool.false_ne_true)
        obtain ⟨d1, d2⟩ := or_f (by rw [hd]; exact Bool.false_ne_true)
        have hl : (pm.endLine == pc.line) = true := by
          rw [beq_iff_eq]
          exact Nat.eq_of_beq_eq_true (by simpa using d1)
        have hm : sEq m "append" = true := by simpa using d3
        cases sEqs hm
        split at h
        · rename_i i y e hi hy hes
          cases h
          match args, hes with
          | [a], hes =>
            cases n with
            | zero => unfold cEs at hes; cases hes
            | succ n =>
              unfold cEs at hes
              cases ha : cE n se a with
              | none => rw [ha] at hes; cases hes
              | some ma =>
                rw [ha] at hes
                have e2 : cEs n se [] = some .nil := by cases n <;> rfl
                rw [e2] at hes
                cases hes
                exact s_app2 yo hi d4 d5 hl hy ha (ex_of co yo tk hy) (ex_of co yo tk ha)
          | [], hes => unfold cEs at hes; cases hes
          | a :: b :: r, hes =>
            exfalso
            cases n with
            | zero => unfold cEs at hes; cases hes
            | succ n =>
              unfold cEs at hes
              cases ha : cE n se a with
              | none => rw [ha] at hes; cases hes
              | some ma =>
                cases hb : cEs n se (b :: r) with
                | none => rw [ha, hb] at hes; cases hes
                | some mb =>
                  rw [ha, hb] at hes
                  cases hes
                  cases n with
                  | zero => unfold cEs at hb; cases hb
                  | succ n =>
                    unfold cEs at hb
                    cases h1 : cE n se b <;> cases h2 : cEs n se r <;> rw [h1, h2] at hb <;> cases hb
        · cases h
  · -- an expression
    split at h
    · cases h
    · rename_i hl
      split at h
      · rename_i e he
        cases h
        exact s_expr he (by simpa using hl) (ex_of co yo tk he)
      · cases h
  · cases h; exact s_retN
  · -- return
    rename_i v pos
    split at h
    · rename_i i hi
      cases h
      cases v <;> first
        | exact s_retv yo hi
        | (simp only [nmIx] at hi; cases hi)
    · split at h
      · rename_i e he
        cases h
        exact s_ret (ex_of co yo tk he)
      · split at h
        · rename_i m' hm
          cases h
          exact s_retF ((sndfs_all co n).f yo.x tk hm)
        · cases h
  · split at h
    · rename_i x u v hx hu hv
      cases h
      exact s_ite (et_of co yo tk hx) (I.b yo tk hu) (I.b yo tk hv)
    · rename_i u v hx hu hv
      split at h
      · split at h
        · rename_i x y _ hx hy
          cases h
          exact s_iteF (ft_cmp yo.x (nobehindF hy _) ((sndfs_all co n).f yo.x tk hx) ((sndfs_all co n).f yo.x tk hy)) (I.b yo tk hu) (I.b yo tk hv)
        · cases h
      · cases h
    · cases h
  · split at h
    · rename_i x u hx hu
      cases h
      exact s_whl yo (et_of co yo tk hx) (I.b yo tk hu)
    · cases h
  · split at h
    · rename_i t r u ht hr hu
      cases h
      obtain ⟨i1, i2⟩ := (snd_all co n).src (X := X) (W := W) _ true rfl yo.x tk hr
      exact s_for yo i1 (i2 X.env) ht (I.b yo tk hu)
    · rename_i t u ht hr hu
      split at h
      · split at h
        · rename_i hm
          cases sEqs hm
          split at h
          · rename_i m' hx hm
            cases h
            exact s_forF co yo hx hm ((sndfs_all co n).f yo.x tk hm) ht (I.b yo tk hu)
          · cases h
        · cases h
      · split at h
        · rename_i m' hm
          cases h
          exact s_forS yo hm ((sndfs_all co n).f yo.x tk hm) ht (I.b yo tk hu)
        · cases h
      · cases h
    · cases h
  · cases h; exact s_pass
  · cases h; exact s_brk
  · cases h; exact s_cnt
  · -- raise
    split at h
    · cases h
    · rename_i hd
      split at h
      · rename_i C hC
        cases h
        exact s_rai co yo tk hC (by simpa using hd)
      · cases h
  · -- try
    rename_i b x px mm y py m2 p2 p3 p4 pos
    split at h
    · rename_i u C i j hu hC hi hj
      split at h
      · rename_i hc
        cases h
        obtain ⟨k, c5⟩ := and_t hc
        obtain ⟨k, c4⟩ := and_t k
        obtain ⟨k, c3⟩ := and_t k
        obtain ⟨c1, c2⟩ := and_t k
        cases (sEq_iff _ _).mp c1
        exact s_try co yo tk hC (by simpa using c2) (by simpa using c3) (by simpa using c4) hi hj (by simpa using c5) fun W pn xe tk' hp => I.b (yo.tr hp) tk' hu
      · cases h
    · cases h
  · cases h
theorem s_nos {st : Stmt} : PS X st (tS L lv .nos W) := by
  refine ⟨fun pins s σ H D I h => ?_⟩
  obtain ⟨F, e, S, R, o⟩ := h
  rw [execS] at o
  exact o.elim
theorem YOk.norg (yo : YOk L lv se X) (l : List (Nat × Nat × Nat)) : YOk L lv { se with rg := l } X :=
  ⟨⟨yo.x.prog, yo.x.w, yo.x.K, yo.x.mg, yo.x.base, yo.x.N, yo.x.sc, yo.x.nd, yo.x.calm, yo.x.room, yo.x.gl, yo.x.mt, yo.x.fl⟩, yo.hs, yo.hf, yo.fn, yo.kind, yo.ps, yo.ex⟩
theorem snds_all (co : CallsOk L lv) : ∀ n, SndS L lv n
  | 0 => {
      s := fun _ _ h => by unfold cS at h; cases h
      b := fun {se X W st m} yo tk h => by
        cases st with
        | nil => unfold cB at h; cases h; exact s_nil
        | cons a r => unfold cB at h; cases h }
  | n + 1 =>
    let I := snds_all co n
    { s := fun yo tk h => snd_s co I yo tk h
      b := fun {se X W st m} yo tk h => by
        cases st with
        | nil => unfold cB at h; cases h; exact s_nil
        | cons a r =>
          unfold cB at h
          split at h
          · rename_i nb nk hr
            split at h
            · split at h
              · rename_i l d xs hx hd hxs
                cases h
                have e : a :: r = (a :: r).take nb ++ (((a :: r).drop nb).take (nk - 1000) ++ (a :: r).drop (nb + (nk - 1000))) := by
                  rw [← List.drop_drop, List.take_append_drop, List.take_append_drop]
                rw [e]
                exact s_lnd co (yo.norg []) tk hx ((sndks_all co callC_of n).b yo tk hd) (I.b yo tk hxs)
              · cases h
            split at h
            · rename_i x d xs hx hd hxs
              cases h
              have e : a :: r = (a :: r).take nb ++ (((a :: r).drop nb).take nk ++ (a :: r).drop (nb + nk)) := by
                rw [← List.drop_drop, List.take_append_drop, List.take_append_drop]
              rw [e]
              exact s_rgn co (I.b (yo.norg []) tk hx) ((sndks_all co callC_of n).b yo tk hd) (I.b yo tk hxs)
            · cases h
          · split at h
            · rename_i x xs h1 h2
              cases h
              exact s_cons (I.s yo tk h1) (I.b yo tk h2)
            · rename_i xs h1 h2
              cases h
              exact s_cons s_nos (I.b yo tk h2)
            · cases h }
end
end Dg

/-! The evaluator is sound: defs. -/
namespace Dg
open PySem PySem.Spec L2
section
variable {L : Lk} {lv : Nat}
theorem slot_start {d : Fd} {ds : List Dv} {i : Nat} {sv : Sv} (h : slot (startE d (ds.map Sv.sh)) i = some sv) : ∃ x, ds[i]? = some x ∧ sv = .sh x := by
  rw [slot_get] at h
  unfold startE at h
  by_cases hi : i < ds.length
  · rw [List.getElem?_append_left (by simpa using hi)] at h
    rw [List.getElem?_map, List.getElem?_map, List.getElem?_eq_getElem hi] at h
    cases h
    exact ⟨_, List.getElem?_eq_getElem hi, rfl⟩
  · rw [List.getElem?_append_right (by simp; omega)] at h
    rw [List.getElem?_replicate] at h
    split at h <;> cases h
theorem rel_start {G : Gx} {H S : Hp} {vs : List V} {ds : List Dv} {N : List Str} {d : Fd} (sub : Sub S H) (rep : RepL G S vs ds) (hn : d.ns = N.length) (hl : vs.length ≤ N.length) : Rel G ⟨H, S, []⟩ (startE d (ds.map Sv.sh)) (L2.start N vs) H S where
  sub := sub
  old := fun a o _ h => h
  keep := fun a h => h
  s0 := .refl S
  new := fun a o h => .inl h
  len := by
    have := rep.len
    unfold startE L2.start
    simp
    omega
  sl := fun i sv h => by
    obtain ⟨x, h1, rfl⟩ := slot_start h
    obtain ⟨v, h2, r⟩ := rep.get h1
    have hi := (List.getElem?_eq_some_iff.mp h2).1
    refine ⟨v, ?_, r⟩
    unfold L2.start
    rw [List.getElem?_append_left (by simpa using hi), List.getElem?_map, h2]
    rfl
  ap := fun i j sv sw v w a _ h1 h2 _ _ h5 _ => by
    obtain ⟨x, _, rfl⟩ := slot_start h1
    cases h5
theorem rel_end {G : Gx} {H S H' S' : Hp} {e : Env} {σ : L2.St} (R : Rel G ⟨H, S, []⟩ e σ H' S') : Grow H S H' S' :=
  ⟨fun a o q => R.old a o (by simp) q, R.s0, R.sub, R.new⟩
/-- one def: the text, the code, the translation -/
structure DefOk (L : Lk) (f : Nat) (d : Fd) : Prop where
  ex : ∃ (name qual : Str) (params : Arguments) (body : List Stmt) (scope : Scope) (N ps : List Str) (mu : List Nat) (n : Nat), FunD L.G.K name qual params body scope [] [] (L.aF f) (L.fdF f) ∧ FnScope N ps scope ∧ L.psF f = ps ∧ d.np = ps.length ∧ d.ns = N.length ∧
    (∃ rg, cB n ⟨N, scope, L.gl, L.G.fl, L.mt, mu, rg⟩ body = some d.body ∧ ∀ D, d.kx = some D → cK n ⟨N, scope, L.gl, L.G.fl, L.mt, mu, rg⟩ body = some D ∧ d.np = 1)
  bi : Binds L.G.K (L.fdF f) (L.psF f) []
theorem out_fn {r : Rt} {H S : Hp} {Q : VK} {E : XK} (h : match outV r with
      | .ok sv => ∀ v H' S', Grow H S H' S' → RepV L.G H H' S' v sv → Q v H'
      | .ex C t => ∀ H' S', Grow H S H' S' → (match t with
        | none => E (.ref (L.G.cA C)) none H'
        | some i => ∀ dx, H' dx = some (.xd [("at", .int i)]) → E (.ref (L.G.cA C)) (some dx) H')
      | .no => False) : OutR L ⟨H, S, []⟩ (fun cls d _ H' => E cls d H') { nx := fun _ H' => Q .non H', rt := Q } r := by
  cases r with
  | nx e => exact fun σ' H' S' R => h .non H' S' (rel_end R) .non
  | bk e => exact h.elim
  | ct e => exact h.elim
  | no => exact h.elim
  | rt sv e =>
    cases sv with
    | sh d => exact fun v σ' H' S' R ow => h v H' S' (rel_end R) ow
    | l1 ds =>
      intro v σ' H' S' R ow
      obtain ⟨a, xs, rfl, ha, hz, hr, hn, h0⟩ := ow
      exact h _ H' S' (rel_end R) ⟨a, xs, rfl, ha, hz, hr, hn, h0⟩
    | _ => exact h.elim
  | ex C t e =>
    intro σ' H' S' R
    have q := h H' S' (rel_end R)
    cases t with
    | none => exact q
    | some i => exact q
theorem fn_step (co : CallsOk L lv) {f : Nat} {d : Fd} (hd : L.pg.fn f = some d) (ok : DefOk L f d) : FnOk L.P L.w L.G.K L.mg L.base (L2.CX L.P L.w) (3 * (lv + 1)) (L.aF f) (L.fdF f) (L.psF f) (spF L (lv + 1) f) := by
  obtain ⟨name, qual, params, body, scope, N, ps, mu, n, F, S, hp, e1, e2, rg, hc, hcK⟩ := ok.ex
  rw [hp]
  refine F.ok (k := 3 * lv + 2) S (fun vs H Q E h => by obtain ⟨_, _, _, _, h3, _⟩ := h; rw [h3, hp]) fun cdv A outer s H vs Q E hr h => ?_
  obtain ⟨S0, ds, sub, rep, hl, hcase⟩ := h
  have xo : XOk L lv ⟨N, scope, L.gl, L.G.fl, L.mt, mu, rg⟩ (cxOf (L2.CX L.P L.w) L.P L.w L.G.K L.mg L.base N qual scope (L.aF f) cdv A outer s H E) := ⟨rfl, rfl, rfl, rfl, rfl, rfl, rfl, S.nd, rfl, hr, rfl, rfl, rfl⟩
  have yo : YOk L lv ⟨N, scope, L.gl, L.G.fl, L.mt, mu, rg⟩ (cxOf (L2.CX L.P L.w) L.P L.w L.G.K L.mg L.base N qual scope (L.aF f) cdv A outer s H E) := ⟨xo, rfl, rfl, fun _ => rfl, S.kind, passes_of (K := fun e s'' => L2.CX L.P L.w outer H s E e s'') (E₁ := fun e' s'' => L2.CX L.P L.w outer H s E e' s'') rfl, rfl⟩
  have tk : Takes (cxOf (L2.CX L.P L.w) L.P L.w L.G.K L.mg L.base N qual scope (L.aF f) cdv A outer s H E) (fun cls d _ H' => E cls d H') := takes_of (E := E) (E₁ := fun e' s'' => L2.CX L.P L.w outer H s E e' s'') rfl rfl rfl rfl
  refine ⟨tBk L lv d.body fun cls d _ H' => E cls d H', (snds_all co n).b yo tk hc, ⟨H, S0, []⟩, startE d (ds.map Sv.sh), S0, rel_start sub rep e2 ?_, ?_⟩
  · rw [hl, hp, ← S.pre, List.length_take]
    omega
  · refine out_fn ?_
    have rl := rep.len
    have : callI L.pg (lv + 1) f ds = outV (execB (clI L.pg lv) d.body (startE d (ds.map Sv.sh))) := by
      rw [callI, hd]
      exact if_pos (by rw [e1, ← hp, ← hl, rl])
    rw [this] at hcase
    exact hcase
/-! ### __init__ -/
theorem slot_startO {d : Fd} {C : Nat} {ds : List Dv} {i : Nat} {sv : Sv} (h : slot (startE d (Sv.o1 C [] :: ds.map Sv.sh)) i = some sv) : (i = 0 ∧ sv = .o1 C []) ∨ ∃ j x, i = j + 1 ∧ ds[j]? = some x ∧ sv = .sh x := by
  cases i with
  | zero =>
    rw [slot_get] at h
    unfold startE at h
    rw [List.map_cons, List.cons_append, List.getElem?_cons_zero] at h
    injection h with h
    injection h with h
    exact .inl ⟨rfl, h.symm⟩
  | succ j =>
    rw [slot_get] at h
    unfold startE at h
    rw [List.map_cons, List.cons_append, List.getElem?_cons_succ] at h
    refine .inr ⟨j, ?_⟩
    by_cases hi : j < ds.length
    · rw [List.getElem?_append_left (by simpa using hi)] at h
      rw [List.getElem?_map, List.getElem?_map, List.getElem?_eq_getElem hi] at h
      cases h
      exact ⟨_, rfl, List.getElem?_eq_getElem hi, rfl⟩
    · rw [List.getElem?_append_right (by simp; omega)] at h
      rw [List.getElem?_replicate] at h
      split at h <;> cases h
theorem rel_startO {G : Gx} {H S : Hp} {x dx : Addr} {C : Nat} {us : List V} {ds : List Dv} {N : List Str} {d : Fd} (sub : Sub S H) (sx : S x = none) (hx : H x = some (.ins (G.cA C) dx [])) (hC : C ∈ G.cs) (rep : RepL G S us ds) (hn : d.ns = N.length) (hl : us.length + 1 ≤ N.length) :
    Rel G ⟨H, S, [x]⟩ (startE d (Sv.o1 C [] :: ds.map Sv.sh)) (L2.start N (.ref x :: us)) H S where
  sub := sub
  old := fun a o _ h => h
  keep := fun a h => h
  s0 := .refl S
  new := fun a o h => .inl h
  len := by
    have := rep.len
    unfold startE L2.start
    simp
    omega
  sl := fun i sv h => by
    rcases slot_startO h with ⟨rfl, rfl⟩ | ⟨j, y, rfl, h1, rfl⟩
    · refine ⟨.ref x, rfl, x, dx, [], rfl, hx, hC, .nil, sx, List.mem_singleton.mpr rfl⟩
    · obtain ⟨v, h2, r⟩ := rep.get h1
      have hi := (List.getElem?_eq_some_iff.mp h2).1
      refine ⟨v, ?_, r⟩
      unfold L2.start
      rw [List.map_cons, List.cons_append, List.getElem?_cons_succ, List.getElem?_append_left (by simpa using hi), List.getElem?_map, h2]
      rfl
  ap := fun i j sv sw v w a hij h1 h2 _ _ h5 h6 => by
    rcases slot_startO h1 with ⟨rfl, rfl⟩ | ⟨k, y, rfl, _, rfl⟩
    · rcases slot_startO h2 with ⟨rfl, rfl⟩ | ⟨k, y, rfl, _, rfl⟩
      · exact hij rfl
      · cases h6
    · cases h5
theorem rel_endO {G : Gx} {H S H' S' : Hp} {x : Addr} {e : Env} {σ : L2.St} (R : Rel G ⟨H, S, [x]⟩ e σ H' S') : GrowM x H S H' S' :=
  ⟨fun a o n q => R.old a o (by simpa using n) q, R.s0, R.sub, R.new⟩
theorem out_mk {r : Rt} {C : Nat} {H S : Hp} {x : Addr} {Q : VK} {E : XK} (h : match outO C r with
      | .ok d => ∀ H' S' fs dx', d = .obj C fs → GrowM x H S H' S' → S' x = none → (∃ xs, H' x = some (.ins (L.G.cA C) dx' xs) ∧ RepF L.G S' xs fs) → Q .non H'
      | .ex D t => ∀ H' S', GrowM x H S H' S' → (match t with
        | none => E (.ref (L.G.cA D)) none H'
        | some i => ∀ dx, H' dx = some (.xd [("at", .int i)]) → E (.ref (L.G.cA D)) (some dx) H')
      | .no => False) : OutR L ⟨H, S, [x]⟩ (fun cls d _ H' => E cls d H') { nx := fun _ H' => Q .non H', rt := Q } r := by
  have fin : ∀ {e : Env} {σ' : L2.St} {H' S' : Hp} {fs : List (Nat × Dv)}, slot e 0 = some (.o1 C fs) → Rel L.G ⟨H, S, [x]⟩ e σ' H' S' → (∀ H' S' fs' dx', Dv.obj C fs = .obj C fs' → GrowM x H S H' S' → S' x = none → (∃ xs, H' x = some (.ins (L.G.cA C) dx' xs) ∧ RepF L.G S' xs fs') → Q .non H') → Q .non H' := fun {e σ' H' S' fs} hs R q => by
    obtain ⟨v, _, a, dx, xs, rfl, ha, hc, hr, hn, hm⟩ := R.sl 0 _ hs
    have : a = x := by simpa using hm
    subst this
    exact q H' S' fs dx rfl (rel_endO R) hn ⟨xs, ha, hr⟩
  have key : ∀ {e : Env}, (match (match slot e 0 with
      | some (.o1 D fs) => if D = C then Rs.ok (Dv.obj C fs) else .no
      | _ => .no) with
      | .ok d => ∀ H' S' fs dx', d = .obj C fs → GrowM x H S H' S' → S' x = none → (∃ xs, H' x = some (.ins (L.G.cA C) dx' xs) ∧ RepF L.G S' xs fs) → Q .non H'
      | .ex D t => ∀ H' S', GrowM x H S H' S' → (match t with
        | none => E (.ref (L.G.cA D)) none H'
        | some i => ∀ dx, H' dx = some (.xd [("at", .int i)]) → E (.ref (L.G.cA D)) (some dx) H')
      | .no => False) → ∀ σ' H' S', Rel L.G ⟨H, S, [x]⟩ e σ' H' S' → Q .non H' := fun {e} h σ' H' S' R => by
    split at h
    · rename_i d hd
      split at hd
      · rename_i D fs hs
        split at hd
        · rename_i hD
          subst hD
          cases hd
          exact fin hs R h
        · cases hd
      · cases hd
    · rename_i D t hd
      split at hd
      · split at hd <;> cases hd
      · cases hd
    · exact h.elim
  cases r with
  | nx e => exact key h
  | bk e => exact h.elim
  | ct e => exact h.elim
  | no => exact h.elim
  | rt sv e => exact h.elim
  | ex D t e =>
    intro σ' H' S' R
    have q := h H' S' (rel_endO R)
    cases t with
    | none => exact q
    | some i => exact q
theorem mk_step (co : CallsOk L lv) {f C : Nat} {d : Fd} (hi : L.pg.init C = some f) (hC : C ∈ L.G.cs) (hd : L.pg.fn f = some d) (ok : DefOk L f d) : FnOk L.P L.w L.G.K L.mg L.base (L2.CX L.P L.w) (3 * (lv + 1)) (L.aF f) (L.fdF f) (L.psF f) (spM L (lv + 1) C f) := by
  obtain ⟨name, qual, params, body, scope, N, ps, mu, n, F, S, hp, e1, e2, rg, hc, hcK⟩ := ok.ex
  rw [hp]
  refine F.ok (k := 3 * lv + 2) S (fun vs H Q E h => by obtain ⟨_, _, _, _, _, _, _, _, _, _, h3, _⟩ := h; rw [h3, hp]) fun cdv A outer s H vs Q E hr h => ?_
  obtain ⟨S0, x, dx, us, ds, rfl, sub, sx, hx, rep, hl, hcase⟩ := h
  have xo : XOk L lv ⟨N, scope, L.gl, L.G.fl, L.mt, mu, rg⟩ (cxOf (L2.CX L.P L.w) L.P L.w L.G.K L.mg L.base N qual scope (L.aF f) cdv A outer s H E) := ⟨rfl, rfl, rfl, rfl, rfl, rfl, rfl, S.nd, rfl, hr, rfl, rfl, rfl⟩
  have yo : YOk L lv ⟨N, scope, L.gl, L.G.fl, L.mt, mu, rg⟩ (cxOf (L2.CX L.P L.w) L.P L.w L.G.K L.mg L.base N qual scope (L.aF f) cdv A outer s H E) := ⟨xo, rfl, rfl, fun _ => rfl, S.kind, passes_of (K := fun e s'' => L2.CX L.P L.w outer H s E e s'') (E₁ := fun e' s'' => L2.CX L.P L.w outer H s E e' s'') rfl, rfl⟩
  have tk : Takes (cxOf (L2.CX L.P L.w) L.P L.w L.G.K L.mg L.base N qual scope (L.aF f) cdv A outer s H E) (fun cls d _ H' => E cls d H') := takes_of (E := E) (E₁ := fun e' s'' => L2.CX L.P L.w outer H s E e' s'') rfl rfl rfl rfl
  have hN : ps.length ≤ N.length := by
    rw [← S.pre, List.length_take]
    omega
  rw [List.length_cons, hp] at hl
  refine ⟨tBk L lv d.body fun cls d _ H' => E cls d H', (snds_all co n).b yo tk hc, ⟨H, S0, [x]⟩, startE d (Sv.o1 C [] :: ds.map Sv.sh), S0, rel_startO sub sx hx hC rep e2 (by omega), ?_⟩
  refine out_mk (C := C) ?_
  have rl := rep.len
  have : makeI L.pg (lv + 1) C ds = outO C (execB (clI L.pg lv) d.body (startE d (Sv.o1 C [] :: ds.map Sv.sh))) := by
    rw [makeI, hi]
    show (match L.pg.fn f with
      | some d => if ds.length + 1 = d.np then outO C (execB ⟨callI L.pg lv, makeI L.pg lv, L.pg.sub, callMI L.pg lv, L.pg.kfI lv⟩ d.body (startE d (Sv.o1 C [] :: ds.map Sv.sh))) else .no
      | none => .no) = _
    rw [hd]
    exact if_pos (by omega)
  rw [this] at hcase
  exact hcase
/-! ### defs that take from a list that is lent to them -/
theorem slot_startV {d : Fd} {svs : List Sv} {i : Nat} {sv : Sv} (h : slot (startE d svs) i = some sv) : svs[i]? = some sv := by
  rw [slot_get] at h
  unfold startE at h
  by_cases hi : i < svs.length
  · rw [List.getElem?_append_left (by simpa using hi)] at h
    rw [List.getElem?_map, List.getElem?_eq_getElem hi] at h
    injection h with h
    injection h with h
    rw [List.getElem?_eq_getElem hi, h]
  · rw [List.getElem?_append_right (by simp; omega)] at h
    rw [List.getElem?_replicate] at h
    split at h <;> cases h
theorem slot_startM {d : Fd} {k : Nat} {ds xd : List Dv} (hk : k ≤ ds.length) {i : Nat} {sv : Sv} (h : slot (startM d k ds xd) i = some sv) : (i = k ∧ sv = .m1 xd) ∨ (i < k ∧ ∃ x, (ds.take k)[i]? = some x ∧ sv = .sh x) ∨ ∃ j x, i = k + 1 + j ∧ (ds.drop k)[j]? = some x ∧ sv = .sh x := by
  have h := slot_startV h
  have hl : ((ds.take k).map Sv.sh).length = k := by rw [List.length_map, List.length_take]; omega
  rcases Nat.lt_trichotomy i k with hi | hi | hi
  · rw [List.getElem?_append_left (by rw [hl]; exact hi), List.getElem?_map] at h
    cases q : (ds.take k)[i]? with
    | none => rw [q] at h; cases h
    | some x => rw [q] at h; cases h; exact .inr (.inl ⟨hi, x, rfl, rfl⟩)
  · subst hi
    rw [List.getElem?_append_right (by omega), hl, Nat.sub_self, List.getElem?_cons_zero] at h
    cases h
    exact .inl ⟨rfl, rfl⟩
  · rw [List.getElem?_append_right (by omega), hl] at h
    obtain ⟨j, rfl⟩ : ∃ j, i = k + 1 + j := ⟨i - (k + 1), by omega⟩
    rw [show k + 1 + j - k = j + 1 by omega, List.getElem?_cons_succ, List.getElem?_map] at h
    cases q : (ds.drop k)[j]? with
    | none => rw [q] at h; cases h
    | some x => rw [q] at h; cases h; exact .inr (.inr ⟨j, x, rfl, q, rfl⟩)
theorem start_get {N : List Str} {vs : List V} {i : Nat} {v : V} (h : vs[i]? = some v) : (L2.start N vs)[i]? = some (some v) := by
  have hi := (List.getElem?_eq_some_iff.mp h).1
  unfold L2.start
  rw [List.getElem?_append_left (by simpa using hi), List.getElem?_map, h]
  rfl
theorem rel_startM {G : Gx} {H S : Hp} {k : Nat} {a : Addr} {pre post : List V} {xs : List V} {ds xd : List Dv} {N : List Str} {d : Fd} (sub : Sub S H) (sa : S a = none) (ha : H a = some (.lst xs)) (hz : xs.length ≤ LIM) (hp : pre.length = k) (rep : RepL G S (pre ++ post) ds) (rx : RepL G S xs xd) (hn : d.ns = N.length) (hl : (pre ++ V.ref a :: post).length ≤ N.length) :
    Rel G ⟨H, S, [a]⟩ (startM d k ds xd) (L2.start N (pre ++ .ref a :: post)) H S := by
  have hlen := rep.len
  have hk : k ≤ ds.length := by rw [List.length_append] at hlen; omega
  have r1 : RepL G S pre (ds.take k) := by
    have := rep.take k
    rw [List.take_left' hp] at this
    exact this
  have r2 : RepL G S post (ds.drop k) := by
    have := rep.drop k
    rw [List.drop_left' hp] at this
    exact this
  exact {
    sub := sub
    old := fun a o _ h => h
    keep := fun a h => h
    s0 := .refl S
    new := fun a o h => .inl h
    len := by
      unfold startM startE L2.start
      simp at hl hlen ⊢
      omega
    sl := fun i sv h => by
      rcases slot_startM hk h with ⟨rfl, rfl⟩ | ⟨hi, x, h1, rfl⟩ | ⟨j, x, rfl, h1, rfl⟩
      · refine ⟨.ref a, start_get ?_, a, xs, rfl, ha, hz, rx, sa, List.mem_singleton.mpr rfl⟩
        rw [List.getElem?_append_right (by omega), hp, Nat.sub_self, List.getElem?_cons_zero]
      · obtain ⟨v, h2, r⟩ := r1.get h1
        refine ⟨v, start_get ?_, r⟩
        rw [List.getElem?_append_left (List.getElem?_eq_some_iff.mp h2).1]
        exact h2
      · obtain ⟨v, h2, r⟩ := r2.get h1
        refine ⟨v, start_get ?_, r⟩
        rw [List.getElem?_append_right (by omega), hp, show k + 1 + j - k = j + 1 by omega, List.getElem?_cons_succ]
        exact h2
    ap := fun i j sv sw v w b hij h1 h2 _ _ h5 h6 => by
      rcases slot_startM hk h1 with ⟨rfl, rfl⟩ | ⟨_, x, _, rfl⟩ | ⟨_, x, _, _, rfl⟩
      · rcases slot_startM hk h2 with ⟨rfl, rfl⟩ | ⟨_, x, _, rfl⟩ | ⟨_, x, _, _, rfl⟩
        · exact hij rfl
        · cases h6
        · cases h6
      · cases h5
      · cases h5 }
theorem out_fnM {r : Rt} {k : Nat} {H S : Hp} {a : Addr} {Q : VK} {E : XK} (hH : H a ≠ none) (h : match outM k r with
      | .ok (d, yd) => ∀ v H' S' ys, GrowM a H S H' S' → S' a = none → H' a = some (.lst ys) → ys.length ≤ LIM → RepL L.G S' ys yd → RepS L.G S' v d → Q v H'
      | _ => False) : OutR L ⟨H, S, [a]⟩ (fun cls d _ H' => E cls d H') { nx := fun _ H' => Q .non H', rt := Q } r := by
  have fin : ∀ {e : Env} {σ' : L2.St} {H' S' : Hp} {yd : List Dv}, slot e k = some (.m1 yd) → Rel L.G ⟨H, S, [a]⟩ e σ' H' S' → GrowM a H S H' S' ∧ S' a = none ∧ ∃ ys, H' a = some (.lst ys) ∧ ys.length ≤ LIM ∧ RepL L.G S' ys yd := fun {e σ' H' S' yd} hs R => by
    obtain ⟨v, _, b, ys, rfl, hb, hz, hr, hn, hm⟩ := R.sl k _ hs
    have : b = a := by simpa using hm
    subst this
    exact ⟨rel_endO R, hn, ys, hb, hz, hr⟩
  cases q : outM k r with
  | ex C t => rw [q] at h; exact h.elim
  | no => rw [q] at h; exact h.elim
  | ok z =>
    obtain ⟨d, yd⟩ := z
    rw [q] at h
    cases r with
    | nx e =>
      have q : (match slot e k with
        | some (.m1 ys) => Rs.ok (Dv.non, ys)
        | _ => .no) = .ok (d, yd) := q
      split at q
      · rename_i ys hs
        cases q
        intro σ' H' S' R
        obtain ⟨g, hn, ys, h1, h2, h3⟩ := fin hs R
        exact h .non H' S' ys g hn h1 h2 h3 .non
      · cases q
    | bk e => cases q
    | ct e => cases q
    | no => cases q
    | ex C t e => cases q
    | rt sv e =>
      cases sv with
      | sh d' =>
        have q : (match slot e k with
          | some (.m1 ys) => Rs.ok (d', ys)
          | _ => .no) = .ok (d, yd) := q
        split at q
        · rename_i ys hs
          cases q
          intro v σ' H' S' R ow
          obtain ⟨g, hn, ys, h1, h2, h3⟩ := fin hs R
          exact h v H' S' ys g hn h1 h2 h3 ow
        · cases q
      | l1 ds =>
        have q : (match slot e k with
          | some (.m1 ys) => Rs.ok (Dv.lst ds, ys)
          | _ => .no) = .ok (d, yd) := q
        split at q
        · rename_i ys hs
          cases q
          intro v σ' H' S' R ow
          obtain ⟨g, hn, ys, h1, h2, h3⟩ := fin hs R
          obtain ⟨b, xs, rfl, hb, hz, hr, hn2, h0⟩ := ow
          have h0 : H b = none := h0
          have hba : b ≠ a := fun z => hH (z ▸ h0)
          have n2 := hn2
          refine h (.ref b) H' (upd S' b (.lst xs)) ys ⟨g.h, g.s.trans (.new n2), fun c o k => ?_, fun c o k => ?_⟩ (by rw [upd_ne (Ne.symm hba)]; exact hn) h1 h2 (h3.mono (.new n2)) (.lst (.inl (.inl upd_same)) hz (hr.mono (.new n2)))
          · by_cases hc : c = b
            · subst hc; rw [upd_same] at k; cases k; exact hb
            · rw [upd_ne hc] at k; exact g.sub _ _ k
          · by_cases hc : c = b
            · subst hc; rw [upd_same] at k; cases k; exact .inr ⟨h0, fun _ _ z => by cases z⟩
            · rw [upd_ne hc] at k; exact g.new _ _ k
        · cases q
      | _ => cases q
theorem fn_stepM (co : CallsOk L lv) {f k : Nat} {d : Fd} (hd : L.pg.fn f = some d) (ok : DefOk L f d) : FnOk L.P L.w L.G.K L.mg L.base (L2.CX L.P L.w) (3 * (lv + 1)) (L.aF f) (L.fdF f) (L.psF f) (spP L (lv + 1) f k) := by
  obtain ⟨name, qual, params, body, scope, N, ps, mu, n, F, S, hp, e1, e2, rg, hc, hcK⟩ := ok.ex
  rw [hp]
  refine F.ok (k := 3 * lv + 2) S (fun vs H Q E h => by obtain ⟨_, _, _, _, _, _, _, _, _, _, _, _, _, _, _, h3, _⟩ := h; rw [h3, hp]) fun cdv A outer s H vs Q E hr h => ?_
  obtain ⟨S0, pre, post, a, xs, ds, xd, rfl, hpre, sub, sa, ha, hz, rep, rx, hl, hcase⟩ := h
  have xo : XOk L lv ⟨N, scope, L.gl, L.G.fl, L.mt, mu, rg⟩ (cxOf (L2.CX L.P L.w) L.P L.w L.G.K L.mg L.base N qual scope (L.aF f) cdv A outer s H E) := ⟨rfl, rfl, rfl, rfl, rfl, rfl, rfl, S.nd, rfl, hr, rfl, rfl, rfl⟩
  have yo : YOk L lv ⟨N, scope, L.gl, L.G.fl, L.mt, mu, rg⟩ (cxOf (L2.CX L.P L.w) L.P L.w L.G.K L.mg L.base N qual scope (L.aF f) cdv A outer s H E) := ⟨xo, rfl, rfl, fun _ => rfl, S.kind, passes_of (K := fun e s'' => L2.CX L.P L.w outer H s E e s'') (E₁ := fun e' s'' => L2.CX L.P L.w outer H s E e' s'') rfl, rfl⟩
  have tk : Takes (cxOf (L2.CX L.P L.w) L.P L.w L.G.K L.mg L.base N qual scope (L.aF f) cdv A outer s H E) (fun cls d _ H' => E cls d H') := takes_of (E := E) (E₁ := fun e' s'' => L2.CX L.P L.w outer H s E e' s'') rfl rfl rfl rfl
  have hN : ps.length ≤ N.length := by
    rw [← S.pre, List.length_take]
    omega
  rw [hp] at hl
  refine ⟨tBk L lv d.body fun cls d _ H' => E cls d H', (snds_all co n).b yo tk hc, ⟨H, S0, [a]⟩, startM d k ds xd, S0, rel_startM sub sa ha hz hpre rep rx e2 (by omega), ?_⟩
  refine out_fnM (k := k) (by rw [ha]; simp) ?_
  have rl := rep.len
  have : callMI L.pg (lv + 1) f k ds xd = outM k (execB (clI L.pg lv) d.body (startM d k ds xd)) := by
    rw [callMI, hd]
    refine if_pos ⟨?_, ?_⟩
    · rw [List.length_append, List.length_cons] at hl
      rw [List.length_append] at rl
      omega
    · rw [List.length_append] at rl
      omega
  rw [this] at hcase
  exact hcase
theorem fn_stepK (co : CallsOk L lv) {f : Nat} {d : Fd} {D : Kx} (hD : d.kx = some D) (ok : DefOk L f d) : FnOk L.P L.w L.G.K L.mg L.base (L2.CX L.P L.w) (3 * (lv + 1)) (L.aF f) (L.fdF f) (L.psF f) (spK L f D) := by
  obtain ⟨name, qual, params, body, scope, N, ps, mu, n, F, S, hp, e1, e2, rg, hc, hcK⟩ := ok.ex
  rw [hp]
  refine F.ok (k := 3 * lv + 2) S (fun vs H Q E h => by obtain ⟨_, _, _, _, _, _, _, _, _, _, _, h3, _⟩ := h; rw [h3, hp]) fun cdv A outer s H vs Q E hr h => ?_
  obtain ⟨S0, H2, v, dd, b, rfl, sub, J, ex, r, okk, hl, q⟩ := h
  have xo : XOk L lv ⟨N, scope, L.gl, L.G.fl, L.mt, mu, rg⟩ (cxOf (L2.CX L.P L.w) L.P L.w L.G.K L.mg L.base N qual scope (L.aF f) cdv A outer s H E) := ⟨rfl, rfl, rfl, rfl, rfl, rfl, rfl, S.nd, rfl, hr, rfl, rfl, rfl⟩
  have yo : YOk L lv ⟨N, scope, L.gl, L.G.fl, L.mt, mu, rg⟩ (cxOf (L2.CX L.P L.w) L.P L.w L.G.K L.mg L.base N qual scope (L.aF f) cdv A outer s H E) := ⟨xo, rfl, rfl, fun _ => rfl, S.kind, passes_of (K := fun e s'' => L2.CX L.P L.w outer H s E e s'') (E₁ := fun e' s'' => L2.CX L.P L.w outer H s E e' s'') rfl, rfl⟩
  have tk : Takes (cxOf (L2.CX L.P L.w) L.P L.w L.G.K L.mg L.base N qual scope (L.aF f) cdv A outer s H E) (fun cls d _ H' => E cls d H') := takes_of (E := E) (E₁ := fun e' s'' => L2.CX L.P L.w outer H s E e' s'') rfl rfl rfl rfl
  refine ⟨tK L (fun _ _ _ => false) D, (sndks_all co callC_no n).b yo tk (hcK D hD).1, S0, H2, oneK dd, b, ⟨sub, J, ex, fun i d h => ?_⟩, okk, fun σ' H' J' _ => q H' J'⟩
  unfold oneK at h
  split at h
  · rename_i hi
    subst hi
    cases h
    exact ⟨v, start_get rfl, r⟩
  · cases h
structure Stat (L : Lk) : Prop where
  fn : ∀ x f, lkS x L.gl = some (.fn f) → L.mg x = some (.ref (L.aF f)) ∧ PySem.W.keepIn L.G.K (.ref (L.aF f)) = true ∧ ∃ d, L.pg.fn f = some d
  defs : ∀ f d, L.pg.fn f = some d → DefOk L f d
  cls : ∀ x C, lkS x L.gl = some (.cls C) → C ∈ L.G.cs ∧ L.mg x = some (.ref (L.G.cA C)) ∧ ∃ f d, L.pg.init C = some f ∧ L.pg.fn f = some d ∧ Mk L.G.K (L.G.cA C) (L.aF f)
  cst : ∀ x d, lkS x L.gl = some (.cst d) → ∃ v u, L.mg x = some u ∧ RelV v u ∧ ∀ S, RepS L.G S v d
  exc : ∀ x C, lkS x L.gl = some (.exc C) → L.mg x = some (.ref (L.G.cA C))
  rai : ∀ C b, L.pg.sub C C = some b → ExK L C
  meth : ∀ m C f, lkS m L.mt = some (C, f) → Cls L.G.K (L.G.cA C) ∧ Meth L.G.K (L.G.cA C) m (L.aF f) ∧ m ∉ L.G.fl ∧ ∃ d, L.pg.fn f = some d
  fld : ∀ C ∈ L.G.cs, Cls L.G.K (L.G.cA C) ∧ ∀ f ∈ L.G.fl, NoAttr L.G.K (L.G.cA C) f
  isc : ∀ C ∈ L.G.cs, PySem.W.findIn L.G.K (.ref (L.G.cA C)) "__class__" = some (some (.builtin "object.__class__")) ∧ PySem.W.specialIn L.G.K (.builtin "object.__class__") "__get__" = some (some (.builtin "getset_descriptor.__get__")) ∧
    PySem.W.takesIn L.G.K (.builtin "object.__class__") = some true ∧ PySem.W.mroIn L.G.K (L.G.cA C) (.type "object") = some true ∧ PySem.W.kitOne L.G.K (.type "NoneType") (.ref (L.G.cA C)) = some false
  fnd : L.G.fl.Nodup
  sub : ∀ D C b, L.pg.sub D C = some b → ExcC L.G.K (L.G.cA D) ∧ PySem.W.kitOne L.G.K (.ref (L.G.cA D)) (.ref (L.G.cA C)) = some b ∧ PySem.W.kitOne L.G.K (.ref (L.G.cA D)) (.type "ValueError") = some true ∧ PySem.W.exmOne L.G.K (.ref (L.G.cA D)) (.ref (L.G.cA C)) = some b
  blt : ∀ x ∈ bltNames, lkS x L.gl = none → L.mg x = none
  nol : ∀ (a : Addr) (o : Obj) (its : Array Value) (n : Nat), L.G.K.lookup a = some o → o.cls = .type "list" → o.data = .seq its n → False
theorem makeI_len {P : Pg} {n C f : Nat} {d : Fd} {ds : List Dv} (hi : P.init C = some f) (hd : P.fn f = some d) (h : makeI P n C ds ≠ .no) : ds.length + 1 = d.np := by
  cases n with
  | zero => rw [makeI] at h; exact absurd rfl h
  | succ n =>
    rw [makeI, hi] at h
    by_cases q : ds.length + 1 = d.np
    · exact q
    · refine absurd ?_ h
      show (match P.fn f with
        | some d => if ds.length + 1 = d.np then outO C (execB ⟨callI P n, makeI P n, P.sub, callMI P n, P.kfI n⟩ d.body (startE d (Sv.o1 C [] :: ds.map Sv.sh))) else .no
        | none => .no) = _
      rw [hd]
      exact if_neg q
abbrev FnsOk (L : Lk) (lv : Nat) : Prop := (∀ f d, L.pg.fn f = some d → FnOk L.P L.w L.G.K L.mg L.base (L2.CX L.P L.w) (3 * lv) (L.aF f) (L.fdF f) (L.psF f) (spF L lv f)) ∧
  (∀ C f d, L.pg.init C = some f → C ∈ L.G.cs → L.pg.fn f = some d → FnOk L.P L.w L.G.K L.mg L.base (L2.CX L.P L.w) (3 * lv) (L.aF f) (L.fdF f) (L.psF f) (spM L lv C f)) ∧
  (∀ f d k, L.pg.fn f = some d → FnOk L.P L.w L.G.K L.mg L.base (L2.CX L.P L.w) (3 * lv) (L.aF f) (L.fdF f) (L.psF f) (spP L lv f k)) ∧
  ∀ f d D, L.pg.fn f = some d → d.kx = some D → lv ≠ 0 → FnOk L.P L.w L.G.K L.mg L.base (L2.CX L.P L.w) (3 * lv) (L.aF f) (L.fdF f) (L.psF f) (spK L f D)
theorem callMI_len {P : Pg} {n f k : Nat} {d : Fd} {ds xd : List Dv} {r : Dv × List Dv} (hd : P.fn f = some d) (h : callMI P n f k ds xd = .ok r) : ds.length + 1 = d.np ∧ k ≤ ds.length := by
  cases n with
  | zero => rw [callMI] at h; cases h
  | succ n =>
    rw [callMI, hd] at h
    have h : (if ds.length + 1 = d.np ∧ k ≤ ds.length then outM k (execB (clI P n) d.body (startM d k ds xd)) else .no) = .ok r := h
    split at h
    · assumption
    · cases h
theorem calls_of (st : Stat L) (h : FnsOk L lv) : CallsOk L lv where
  fn := fun x f e => by
    obtain ⟨h1, h2, d, hd⟩ := st.fn x f e
    have D := st.defs f d hd
    refine ⟨h1, h2, D.bi, fun ds q => ?_, h.1 f d hd⟩
    obtain ⟨_, _, _, _, _, N, ps, mu, n, F, S, hp, e1, e2, _⟩ := D.ex
    rw [callI_len hd q, e1, hp]
  mfn := fun x f k e => by
    obtain ⟨h1, h2, d, hd⟩ := st.fn x f e
    have D := st.defs f d hd
    refine ⟨fun ds xd r q => ?_, h.2.2.1 f d k hd⟩
    obtain ⟨_, _, _, _, _, N, ps, mu, n, F, S, hp, e1, e2, _⟩ := D.ex
    obtain ⟨q1, q2⟩ := callMI_len hd q
    exact ⟨by rw [q1, e1, hp], q2⟩
  kfn := fun x f D e hk => by
    obtain ⟨h1, h2, d, hd⟩ := st.fn x f e
    have DO := st.defs f d hd
    cases lv with
    | zero => cases hk
    | succ lv =>
      have hk : (match L.pg.fn f with
        | some d => d.kx
        | none => none) = some D := hk
      rw [hd] at hk
      refine ⟨?_, h.2.2.2 f d D hd hk (Nat.succ_ne_zero _)⟩
      obtain ⟨_, _, _, _, _, N, ps, mu, n, F, S, hp, e1, e2, rg, _, hc⟩ := DO.ex
      rw [hp, ← e1]
      exact (hc D hk).2
  nol := st.nol
  cls := fun x C e => by
    obtain ⟨hC, hm, f, d, hi, hd, hk⟩ := st.cls x C e
    have D := st.defs f d hd
    refine ⟨hC, f, hm, hk, D.bi, fun ds q => ?_, h.2.1 C f d hi hC hd⟩
    obtain ⟨_, _, _, _, _, N, ps, mu, n, F, S, hp, e1, e2, _⟩ := D.ex
    rw [makeI_len hi hd q, e1, hp]
  cst := st.cst
  exc := st.exc
  rai := st.rai
  meth := fun m C f e => by
    obtain ⟨h1, h2, h3, d, hd⟩ := st.meth m C f e
    have D := st.defs f d hd
    refine ⟨h1, h2, D.bi, h3, fun ds q => ?_, h.1 f d hd⟩
    obtain ⟨_, _, _, _, _, N, ps, mu, n, F, S, hp, e1, e2, _⟩ := D.ex
    rw [callI_len hd q, e1, hp]
  fld := st.fld
  isc := st.isc
  fnd := st.fnd
  sub := st.sub
  blt := st.blt
theorem fns_all (st : Stat L) : ∀ lv, FnsOk L lv
  | 0 => by
    have no : ∀ {f vs H Q E}, ¬ spF L 0 f vs H Q E := fun {f vs H Q E} h => by
      obtain ⟨_, _, _, _, _, h⟩ := h
      rw [callI] at h
      exact h
    have no2 : ∀ {C f vs H Q E}, ¬ spM L 0 C f vs H Q E := fun {C f vs H Q E} h => by
      obtain ⟨_, _, _, _, _, _, _, _, _, _, _, h⟩ := h
      rw [makeI] at h
      exact h
    have no3 : ∀ {f k vs H Q E}, ¬ spP L 0 f k vs H Q E := fun {f k vs H Q E} h => by
      obtain ⟨_, _, _, _, _, _, _, _, _, _, _, _, _, _, _, _, h⟩ := h
      rw [callMI] at h
      exact h
    exact ⟨fun f d hd => ⟨fun vs H Q E h => absurd h no, fun A outer s H args us vs Q E _ _ _ _ h => absurd h no⟩, fun C f d _ _ hd => ⟨fun vs H Q E h => absurd h no2, fun A outer s H args us vs Q E _ _ _ _ h => absurd h no2⟩,
      fun f d k hd => ⟨fun vs H Q E h => absurd h no3, fun A outer s H args us vs Q E _ _ _ _ h => absurd h no3⟩, fun f d D _ _ z => absurd rfl z⟩
  | lv + 1 => ⟨fun f d hd => fn_step (calls_of st (fns_all st lv)) hd (st.defs f d hd), fun C f d hi hC hd => mk_step (calls_of st (fns_all st lv)) hi hC hd (st.defs f d hd),
      fun f d k hd => fn_stepM (calls_of st (fns_all st lv)) hd (st.defs f d hd), fun f d D hd hk _ => fn_stepK (calls_of st (fns_all st lv)) hk (st.defs f d hd)⟩
end
end Dg

/-! A law's program as data, the head's facts. -/
namespace Dg
open PySem PySem.Spec L2 He PyProof.Rows
theorem fnC_ok {N P : List Str} {sc : Scope} (h : fnC N P sc = true) : FnScope N P sc := by
  unfold fnC at h
  obtain ⟨h1, h⟩ := ba h
  obtain ⟨h2, h⟩ := ba h
  obtain ⟨h3, h⟩ := ba h
  obtain ⟨h4, h⟩ := ba h
  obtain ⟨h5, h⟩ := ba h
  obtain ⟨h6, h7⟩ := ba h
  refine ⟨?_, by simpa using h2, by simpa using h3, ndS_ok h4, strsEq_ok h5, fun x hx => ?_, fun y hy e => ?_⟩
  · split at h1
    · assumption
    · cases h1
  · have := List.all_eq_true.mp h6 x hx
    rw [← lkS_eq]
    split at this
    · exact .inl (by assumption)
    · exact .inr (by assumption)
    · cases this
  · have := List.all_eq_true.mp h7 y hy
    rw [e] at this
    cases this
/-! ### the program as data -/
structure Fr where
  id : Nat
  at_ : Str × Option Str
  name : Str
  qual : Str
  N : List Str
  ps : List Str
  mu : List Nat
  rg : List (Nat × Nat × Nat)
  st : Stmt
  d : Fd
/-- a class: its number, its name, its __init__ -/
structure Cr where
  id : Nat
  name : Str
  init : Nat
structure Dat where
  fs : List Fr
  xs : List (Nat × Str)
  cs : List (Str × Dv)
  sb : List (Nat × Nat × Bool)
  ks : List Cr
  fl : List Str
  ms : List (Str × Nat × Nat)
def glF : List Fr → List (Str × Gk)
  | [] => []
  | r :: l => match r.at_.2 with
    | none => (r.at_.1, .fn r.id) :: glF l
    | some _ => glF l
def Dat.gl (D : Dat) : List (Str × Gk) := glF D.fs ++ ((D.xs.map fun x => (x.2, .exc x.1)) ++ ((D.cs.map fun x => (x.1, .cst x.2)) ++ D.ks.map fun x => (x.name, .cls x.id)))
def findK (C : Nat) : List Cr → Option Cr
  | [] => none
  | r :: l => if Nat.beq r.id C then some r else findK C l
theorem findK_mem {C : Nat} : ∀ {l : List Cr} {r : Cr}, findK C l = some r → r ∈ l ∧ r.id = C
  | [], _, h => by cases h
  | a :: l, r, h => by
    unfold findK at h
    split at h
    · rename_i e
      cases h
      exact ⟨List.mem_cons_self, Nat.eq_of_beq_eq_true e⟩
    · obtain ⟨h1, h2⟩ := findK_mem h
      exact ⟨List.mem_cons_of_mem _ h1, h2⟩
theorem glF_mem {x : Str} {g : Gk} : ∀ {l : List Fr}, (x, g) ∈ glF l → ∃ r ∈ l, r.at_ = (x, none) ∧ g = .fn r.id
  | [], h => by cases h
  | r :: l, h => by
    obtain ⟨i, ⟨a1, a2⟩, n, q, N, ps, mu, rg, st, d⟩ := r
    unfold glF at h
    cases a2 with
    | none =>
      rcases List.mem_cons.mp h with h | h
      · cases h
        exact ⟨_, List.mem_cons_self, rfl, rfl⟩
      · obtain ⟨r, h1, h2⟩ := glF_mem h
        exact ⟨r, List.mem_cons_of_mem _ h1, h2⟩
    | some m =>
      obtain ⟨r, h1, h2⟩ := glF_mem h
      exact ⟨r, List.mem_cons_of_mem _ h1, h2⟩
def findF (f : Nat) : List Fr → Option Fr
  | [] => none
  | r :: l => if Nat.beq r.id f then some r else findF f l
theorem findF_mem {f : Nat} : ∀ {l : List Fr} {r : Fr}, findF f l = some r → r ∈ l ∧ r.id = f
  | [], _, h => by cases h
  | a :: l, r, h => by
    unfold findF at h
    split at h
    · rename_i e
      cases h
      exact ⟨List.mem_cons_self, Nat.eq_of_beq_eq_true e⟩
    · obtain ⟨h1, h2⟩ := findF_mem h
      exact ⟨List.mem_cons_of_mem _ h1, h2⟩
def findX (C : Nat) : List (Nat × Str) → Option Str
  | [] => none
  | r :: l => if Nat.beq r.1 C then some r.2 else findX C l
def findB (D C : Nat) : List (Nat × Nat × Bool) → Option Bool
  | [] => none
  | r :: l => if Nat.beq r.1 D && Nat.beq r.2.1 C then some r.2.2 else findB D C l
theorem findB_mem {D C : Nat} {b : Bool} : ∀ {l : List (Nat × Nat × Bool)}, findB D C l = some b → (D, C, b) ∈ l
  | [], h => by cases h
  | r :: l, h => by
    unfold findB at h
    split at h
    · rename_i e
      obtain ⟨e1, e2⟩ := ba e
      cases h
      have k1 := Nat.eq_of_beq_eq_true e1
      have k2 := Nat.eq_of_beq_eq_true e2
      rw [← k1, ← k2]
      exact List.mem_cons_self
    · exact List.mem_cons_of_mem _ (findB_mem h)
def Dat.pg (D : Dat) : Pg := ⟨fun f => (findF f D.fs).map (·.d), fun C => (findK C D.ks).map (·.init), fun a b => findB a b D.sb⟩
def Fr.def_ (r : Fr) : DefD := ⟨r.at_, r.name, r.qual, defArgs r.st, defBody r.st, defScope r.st, [], []⟩
def cAd (D : Dat) (K : PySem.W.Frag) (C : Nat) : Addr := ga K ((findX C (D.xs ++ D.ks.map fun k => (k.id, k.name))).getD Str.empty)
/-! ### the facts -/
def excB (K : PySem.W.Frag) (D : Addr) : Bool :=
  eqO (PySem.W.findIn K (.ref D) "__getattribute__") (some (some (.builtin "BaseException.__getattribute__"))) && (eqO (PySem.W.findIn K (.ref D) "__getattr__") (some none) && (decide (PySem.W.subIn K (.ref D) (.type "BaseException") = some true) && (PySem.W.hasDictIn K D &&
  (eqO (PySem.W.findIn K (.ref D) "__class__") (some (some (.builtin "object.__class__"))) && (eqO (PySem.W.specialIn K (.builtin "object.__class__") "__get__") (some (some (.builtin "getset_descriptor.__get__"))) && (decide (PySem.W.takesIn K (.builtin "object.__class__") = some true) &&
  decide (PySem.W.mroIn K D (.type "object") = some true)))))))
theorem excB_ok {K : PySem.W.Frag} {D : Addr} (h : excB K D = true) : ExcC K D := by
  unfold excB at h
  obtain ⟨h1, h⟩ := ba h
  obtain ⟨h2, h⟩ := ba h
  obtain ⟨h3, h⟩ := ba h
  obtain ⟨h4, h⟩ := ba h
  obtain ⟨h5, h⟩ := ba h
  obtain ⟨h6, h⟩ := ba h
  obtain ⟨h7, h8⟩ := ba h
  exact ⟨eqO_ok h1, eqO_ok h2, of_decide_eq_true h3, h4, eqO_ok h5, eqO_ok h6, of_decide_eq_true h7, of_decide_eq_true h8⟩
/-- the items of a module's tuple -/
def itsB : List Value → List Dv → Bool
  | [], [] => true
  | .int j _ :: r, .int i :: ds => decide (j = i) && itsB r ds
  | .str y _ :: r, .str z :: ds => decide (y = z) && itsB r ds
  | _, _ => false
theorem its_ok {G : Gx} : ∀ {us : List Value} {ds : List Dv}, itsB us ds = true → ∃ xs : List V, Vals xs us ∧ xs.length = ds.length ∧ us.length = ds.length ∧ ∀ S, RepL G S xs ds
  | [], [], _ => ⟨[], .nil, rfl, rfl, fun S => .nil⟩
  | .int j t :: r, .int i :: ds, h => by
    obtain ⟨h1, h2⟩ := ba (show (decide (j = i) && itsB r ds) = true from h)
    obtain ⟨xs, q1, q2, q3, q4⟩ := its_ok h2
    have e : j = i := of_decide_eq_true h1
    subst e
    exact ⟨.int j :: xs, .cons ⟨t, rfl⟩ q1, by rw [List.length_cons, List.length_cons, q2], by rw [List.length_cons, List.length_cons, q3], fun S => .cons (.int j) (q4 S)⟩
  | .str y t :: r, .str z :: ds, h => by
    obtain ⟨h1, h2⟩ := ba (show (decide (y = z) && itsB r ds) = true from h)
    obtain ⟨xs, q1, q2, q3, q4⟩ := its_ok h2
    have e : y = z := of_decide_eq_true h1
    subst e
    exact ⟨.str y :: xs, .cons ⟨t, rfl⟩ q1, by rw [List.length_cons, List.length_cons, q2], by rw [List.length_cons, List.length_cons, q3], fun S => .cons (.str y) (q4 S)⟩
def tupO (ds : List Dv) : Option Obj → Bool
  | some o => (match o.data with
    | .seq its _ => (match o.cls with
      | .type n => decide (n = "tuple")
      | _ => false) && (Nat.ble ds.length 1000 && itsB its.toList ds)
    | _ => false)
  | none => false
def cstB (K : PySem.W.Frag) (x : Str) : Dv → Bool
  | .int i => (Fa.int x i).ok K
  | .str z => (Fa.str x z).ok K
  | .tup ds => (Fa.glo x).ok K && tupO ds (K.lookup (ga K x))
  | _ => false
def raiB (K : PySem.W.Frag) (C : Addr) : Bool := PySem.W.excIn K C veBase "ValueError.__new__" && (PySem.W.keepIn K (.ref C) && (decide (PySem.W.subIn K (.ref C) (.type "BaseException") = some true) && decide (PySem.W.typeIn K (.ref C) = some (.type "type"))))
def subB (D : Dat) (K : PySem.W.Frag) (p : Nat × Nat × Bool) : Bool := (!(Nat.beq p.1 p.2.1) || raiB K (cAd D K p.1)) && (excB K (cAd D K p.1) && (decide (PySem.W.kitOne K (.ref (cAd D K p.1)) (.ref (cAd D K p.2.1)) = some p.2.2) && (decide (PySem.W.kitOne K (.ref (cAd D K p.1)) (.type "ValueError") = some true) &&
  decide (PySem.W.exmOne K (.ref (cAd D K p.1)) (.ref (cAd D K p.2.1)) = some p.2.2))))
/-- a class -/
def clsB (D : Dat) (K : PySem.W.Frag) (k : Cr) : Bool := (Fa.glo k.name).ok K && ((Fa.cls k.name).ok K && ((Fa.mkr k.name).ok K && ((D.fl.all fun f => (Fa.noat k.name f).ok K) && ((match findF k.init D.fs with
  | some r => decide (r.at_ = (k.name, some ("__init__" : Str)))
  | none => false) && (eqO (PySem.W.findIn K (.ref (ga K k.name)) "__class__") (some (some (.builtin "object.__class__"))) && (eqO (PySem.W.specialIn K (.builtin "object.__class__") "__get__") (some (some (.builtin "getset_descriptor.__get__"))) &&
  (decide (PySem.W.takesIn K (.builtin "object.__class__") = some true) && (decide (PySem.W.mroIn K (ga K k.name) (.type "object") = some true) && decide (PySem.W.kitOne K (.type "NoneType") (.ref (ga K k.name)) = some false)))))))))
/-- a def of the module -/
def topB (K : PySem.W.Frag) (r : Fr) : Bool := match r.at_.2 with
  | none => (Fa.glo r.at_.1).ok K
  | some _ => true
def methB (D : Dat) (K : PySem.W.Frag) (m : Str × Nat × Nat) : Bool := match findK m.2.1 D.ks, findF m.2.2 D.fs with
  | some k, some r => (Fa.meth k.name m.1).ok K && (decide (r.at_ = (k.name, some m.1)) && (match ixOf m.1 D.fl with
    | none => true
    | some _ => false))
  | _, _ => false
/-- no lists among the objects that stand -/
def isLst (o : Obj) : Bool := match o.data with
  | .seq _ _ => (match o.cls with
    | .type n => decide (n = "list")
    | _ => false)
  | _ => false
def nolB (K : PySem.W.Frag) : Bool := K.all fun p => !isLst p.2
theorem nol_ok {K : PySem.W.Frag} (h : nolB K = true) (a : Addr) (o : Obj) (its : Array Value) (n : Nat) (e : K.lookup a = some o) (hc : o.cls = .type "list") (hd : o.data = .seq its n) : False := by
  have key : ∀ K : PySem.W.Frag, K.lookup a = some o → (a, o) ∈ K := fun K => by
    induction K with
    | nil => intro e; cases e
    | cons p r ih =>
      obtain ⟨b, u⟩ := p
      intro e
      rw [List.lookup_cons] at e
      by_cases hb : a = b
      · subst hb
        simp only [beq_self_eq_true] at e
        cases e
        exact List.mem_cons_self
      · have hb' : (a == b) = false := by simpa using hb
        rw [hb'] at e
        exact List.mem_cons_of_mem _ (ih e)
  have m := List.all_eq_true.mp h _ (key K e)
  have : isLst o = true := by
    unfold isLst
    rw [hd, hc]
    exact decide_eq_true rfl
  rw [this] at m
  cases m
def chk (D : Dat) (K : PySem.W.Frag) : Bool := (nolB K && D.fs.all fun r => topB K r) && ((D.ks.all fun k => clsB D K k) && ((D.xs.all fun x => (Fa.glo x.2).ok K) && ((bltNames.all fun x => (lkS x D.gl).isSome || (Fa.free x).ok K) && ((D.cs.all fun x => cstB K x.1 x.2) && (D.sb.all (subB D K) && D.ms.all (methB D K))))))
def obsX (D : Dat) (K : PySem.W.Frag) : AlD := (chk D K && D.fs.all fun r => r.def_.ok K, D.fs.map fun r => fnW K r.def_.at_)
def valX (D : Dat) : AlD := (true, D.fs.map fun r => r.def_.val)
def SaysX (D : Dat) (K : PySem.W.Frag) : Prop := obsX D K = valX D
/-- the addresses of what is no list -/
def asN (g : Addr → Option Obj) (l : List Addr) : List Addr := l.filter fun a => match g a with
  | some o => !isLst o
  | none => false
def obsXG (n : Nat) (D : Dat) (g : Addr → Option Obj) : AlD := obsX D (frG g (asN g (asD g n)))
def hookX (n : Nat) (D : Dat) : PySem.W.Hook where
  α := AlD
  obs := fun s => obsXG n D s.heap.get?
  val := fun _ => valX D
  says := fun _ h => ∃ K : PySem.W.Frag, K.In h ∧ SaysX D K
  of := fun _ _ e => ⟨_, frG_in, e⟩
  keeps := fun _ _ _ ⟨K, hK, c⟩ k => ⟨K, PySem.W.Frag.In.keeps hK k, c⟩
theorem obsXG_eq {n : Nat} {D : Dat} {g : Addr → Option Obj} {s : Shared} (h : ∀ a, g a = s.heap.get? a) : obsXG n D g = (hookX n D).obs s := by
  have e : g = s.heap.get? := funext h
  rw [e] <;> rfl
section
variable {D : Dat} {K : PySem.W.Frag}
theorem SaysX.chk_ (c : SaysX D K) : chk D K = true := (ba (show (chk D K && D.fs.all fun r => r.def_.ok K) = true from congrArg (fun z : AlD => z.1) c)).1
theorem SaysX.def_ (c : SaysX D K) {r : Fr} (h : r ∈ D.fs) : ∃ fd, FunD K r.name r.qual (defArgs r.st) (defBody r.st) (defScope r.st) [] [] (fAd K r.at_) fd := by
  have c2 := (ba (show (chk D K && D.fs.all fun r => r.def_.ok K) = true from congrArg (fun z : AlD => z.1) c)).2
  have e : (D.fs.map fun r => fnW K r.def_.at_) = D.fs.map fun r => r.def_.val := congrArg (fun z : AlD => z.2) c
  obtain ⟨i, hi⟩ := List.mem_iff_getElem?.mp h
  have e2 : (D.fs.map fun r => fnW K r.def_.at_)[i]? = (D.fs.map fun r => r.def_.val)[i]? := by rw [e]
  rw [List.getElem?_map, List.getElem?_map, hi] at e2
  exact DefD.funD (d := r.def_) (Option.some.inj e2) (List.all_eq_true.mp c2 r h)
/-- one def's text, checked -/
structure FrOk (D : Dat) (r : Fr) : Prop where
  sc : fnC r.N r.ps (defScope r.st) = true
  np : r.d.np = r.ps.length
  ns : r.d.ns = r.N.length
  body : cB 60 ⟨r.N, defScope r.st, D.gl, D.fl, D.ms, r.mu, r.rg⟩ (defBody r.st) = some r.d.body
  kx : ∀ X, r.d.kx = some X → cK 60 ⟨r.N, defScope r.st, D.gl, D.fl, D.ms, r.mu, r.rg⟩ (defBody r.st) = some X ∧ r.d.np = 1
  bi : ∀ (kV doc pm : Value) (an : Option Addr) (cdv ct : Value) (us : List Value), us.length = r.ps.length → bindArgs (PySem.W.fnOf r.name r.qual (defArgs r.st) (defBody r.st) (defScope r.st) .none kV doc pm an cdv ct) ⟨us, []⟩ = pure (r.ps.zip us)
def lkOf (D : Dat) (P : Program) (w : World) (K : PySem.W.Frag) (mg : Str → Option Value) (base : Heap) (fdF : Nat → FuncData) : Lk where
  G := ⟨K, cAd D K, D.fl, D.ks.map (·.id)⟩
  P := P
  w := w
  mg := mg
  base := base
  pg := D.pg
  gl := D.gl
  mt := D.ms
  aF := fun f => match findF f D.fs with
    | some r => fAd K r.at_
    | none => 0
  fdF := fdF
  psF := fun f => match findF f D.fs with
    | some r => r.ps
    | none => []
theorem lk_mem {α : Type} {x : Str} {a : α} : ∀ {l : List (Str × α)}, lkS x l = some a → (x, a) ∈ l
  | [], h => by cases h
  | (y, b) :: r, h => by
    unfold lkS at h
    cases q : sEq x y with
    | true =>
      rw [q] at h
      cases h
      rw [(sEq_iff x y).mp q]
      exact List.mem_cons_self
    | false =>
      rw [q] at h
      exact List.mem_cons_of_mem _ (lk_mem h)
structure DatOk (D : Dat) : Prop where
  fs : ∀ r ∈ D.fs, FrOk D r ∧ findF r.id D.fs = some r
  xs : ∀ x ∈ D.xs, findX x.1 (D.xs ++ D.ks.map fun k => (k.id, k.name)) = some x.2
  ks : ∀ k ∈ D.ks, findX k.id (D.xs ++ D.ks.map fun k => (k.id, k.name)) = some k.name ∧ findK k.id D.ks = some k
  fl : ndS D.fl = true
theorem stat_of {P : Program} {w : World} {h : Heap} {mg : Str → Option Value} (X : K.In h) (G : h.Ns mainGlobals mg) (c : SaysX D K) (ok : DatOk D) (hne : ∃ r, r ∈ D.fs) :
    ∃ fdF : Nat → FuncData, (∀ r ∈ D.fs, FunD K r.name r.qual (defArgs r.st) (defBody r.st) (defScope r.st) [] [] (fAd K r.at_) (fdF r.id)) ∧ ∀ base, Stat (lkOf D P w K mg base fdF) := by
  have k := c.chk_
  unfold chk at k
  obtain ⟨k1, k⟩ := ba k
  obtain ⟨k0, k1⟩ := ba k1
  obtain ⟨kc, k⟩ := ba k
  obtain ⟨k2, k⟩ := ba k
  obtain ⟨k3, k⟩ := ba k
  obtain ⟨k4, k⟩ := ba k
  obtain ⟨k5, k6⟩ := ba k
  have ch : ∀ f, ∃ fd, ∀ r, findF f D.fs = some r → FunD K r.name r.qual (defArgs r.st) (defBody r.st) (defScope r.st) [] [] (fAd K r.at_) fd := fun f => by
    cases q : findF f D.fs with
    | none =>
      obtain ⟨r, hr⟩ := hne
      obtain ⟨fd, _⟩ := c.def_ hr
      exact ⟨fd, fun r e => by cases e⟩
    | some r =>
      obtain ⟨fd, F⟩ := c.def_ (findF_mem q).1
      exact ⟨fd, fun r' e => by cases e; exact F⟩
  refine ⟨fun f => Classical.choose (ch f), fun r hr => Classical.choose_spec (ch r.id) r (ok.fs r hr).2, fun base => ?_⟩
  have F : ∀ f r, findF f D.fs = some r → FunD K r.name r.qual (defArgs r.st) (defBody r.st) (defScope r.st) [] [] (fAd K r.at_) (Classical.choose (ch f)) := fun f r e => Classical.choose_spec (ch f) r e
  have kinds : ∀ x g, lkS x D.gl = some g → (∃ r ∈ D.fs, r.at_ = (x, none) ∧ g = .fn r.id) ∨ (∃ y ∈ D.xs, x = y.2 ∧ g = .exc y.1) ∨ (∃ y ∈ D.cs, x = y.1 ∧ g = .cst y.2) ∨ ∃ y ∈ D.ks, x = y.name ∧ g = .cls y.id := fun x g e => by
    have m := lk_mem e
    unfold Dat.gl at m
    rw [List.mem_append, List.mem_append, List.mem_append, List.mem_map, List.mem_map, List.mem_map] at m
    rcases m with m | ⟨r, h1, h2⟩ | ⟨r, h1, h2⟩ | ⟨r, h1, h2⟩
    · exact .inl (glF_mem m)
    · cases h2; exact .inr (.inl ⟨r, h1, rfl, rfl⟩)
    · cases h2; exact .inr (.inr (.inl ⟨r, h1, rfl, rfl⟩))
    · cases h2; exact .inr (.inr (.inr ⟨r, h1, rfl, rfl⟩))
  have hcK : ∀ y ∈ D.ks, cAd D K y.id = ga K y.name := fun y h1 => by
    unfold cAd
    rw [(ok.ks y h1).1]
    rfl
  have ofC : ∀ C ∈ D.ks.map (·.id), ∃ y ∈ D.ks, C = y.id := fun C h => by
    obtain ⟨y, h1, h2⟩ := List.mem_map.mp h
    exact ⟨y, h1, h2.symm⟩
  have aF : ∀ f r, findF f D.fs = some r → (lkOf D P w K mg base fun f => Classical.choose (ch f)).aF f = fAd K r.at_ := fun f r q => by
    show (match findF f D.fs with
      | some r => fAd K r.at_
      | none => 0) = _
    rw [q]
  exact {
    fn := fun x f e => by
      rcases kinds x _ e with ⟨r, h1, h2, h3⟩ | ⟨y, _, _, h3⟩ | ⟨y, _, _, h3⟩ | ⟨y, _, _, h3⟩
      · cases h3
        have hf := (ok.fs r h1).2
        have ha := aF r.id r hf
        refine ⟨?_, ?_, r.d, ?_⟩
        · rw [ha, h2]
          have q := List.all_eq_true.mp k1 r h1
          unfold topB at q
          rw [h2] at q
          exact glo_ok X G q
        · rw [ha]; exact (F r.id r hf).kp
        · show (findF r.id D.fs).map (·.d) = _
          rw [hf]
          rfl
      · cases h3
      · cases h3
      · cases h3
    defs := fun f d e => by
      have e : (findF f D.fs).map (·.d) = some d := e
      cases q : findF f D.fs with
      | none => rw [q] at e; cases e
      | some r =>
        rw [q] at e
        cases e
        obtain ⟨O, _⟩ := ok.fs r (findF_mem q).1
        have ha := aF f r q
        have hp : (lkOf D P w K mg base fun f => Classical.choose (ch f)).psF f = r.ps := by
          show (match findF f D.fs with
            | some r => r.ps
            | none => []) = _
          rw [q]
        refine ⟨⟨r.name, r.qual, _, _, _, r.N, r.ps, r.mu, 60, by rw [ha]; exact F f r q, fnC_ok O.sc, hp, O.np, O.ns, r.rg, O.body, O.kx⟩, ?_⟩
        rw [hp]
        exact (F f r q).bindsN O.bi
    cls := fun x C e => by
      rcases kinds x _ e with ⟨r, _, _, h3⟩ | ⟨y, _, _, h3⟩ | ⟨y, _, _, h3⟩ | ⟨y, h1, h2, h3⟩
      · cases h3
      · cases h3
      · cases h3
      · cases h3
        subst h2
        have q := List.all_eq_true.mp kc y h1
        unfold clsB at q
        obtain ⟨q1, q⟩ := ba q
        obtain ⟨q2, q⟩ := ba q
        obtain ⟨q3, q⟩ := ba q
        obtain ⟨q4, q⟩ := ba q
        obtain ⟨q5, q⟩ := ba q
        cases hf : findF y.init D.fs with
        | none => rw [hf] at q5; cases q5
        | some r =>
          rw [hf] at q5
          have hat : r.at_ = (y.name, some ("__init__" : Str)) := of_decide_eq_true q5
          have ha := aF y.init r hf
          refine ⟨List.mem_map.mpr ⟨y, h1, rfl⟩, ?_, y.init, r.d, ?_, ?_, ?_⟩
          · show mg y.name = some (.ref (cAd D K y.id))
            rw [hcK y h1]
            exact glo_ok X G q1
          · show (findK y.id D.ks).map (·.init) = _
            rw [(ok.ks y h1).2]
            rfl
          · show (findF y.init D.fs).map (·.d) = _
            rw [hf]
            rfl
          · rw [ha, hat]
            show Mk K (cAd D K y.id) (ma K (ga K y.name) "__init__")
            rw [hcK y h1]
            exact mkr_ok q3
    cst := fun x d e => by
      rcases kinds x _ e with ⟨r, _, _, h3⟩ | ⟨y, _, _, h3⟩ | ⟨y, h1, h2, h3⟩ | ⟨y, _, _, h3⟩
      · cases h3
      · cases h3
      · cases h3
        subst h2
        have q := List.all_eq_true.mp k4 y h1
        have q : cstB K y.1 y.2 = true := q
        unfold cstB at q
        split at q
        · rename_i i hi
          obtain ⟨t, ht⟩ := int_ok X G q
          rw [hi]
          exact ⟨.int i, _, ht, ⟨t, rfl⟩, fun S => .int i⟩
        · rename_i z hz
          obtain ⟨t, ht⟩ := str_ok X G q
          rw [hz]
          exact ⟨.str z, _, ht, ⟨t, rfl⟩, fun S => .str z⟩
        · rename_i ds hds
          obtain ⟨q1, q2⟩ := ba q
          have hg := glo_ok X G q1
          rw [hds]
          unfold tupO at q2
          split at q2
          · rename_i o ho
            split at q2
            · rename_i its n hdt
              obtain ⟨q3, q4⟩ := ba q2
              obtain ⟨q4, q5⟩ := ba q4
              split at q3
              · rename_i T hT
                have eT : T = "tuple" := of_decide_eq_true q3
                subst eT
                obtain ⟨xs, v1, v2, v3, v4⟩ := its_ok (G := ⟨K, cAd D K, D.fl, D.ks.map (·.id)⟩) q5
                have hz : ds.length ≤ 1000 := Nat.ble_eq.mp q4
                refine ⟨.ref (ga K y.1), _, hg, rfl, fun S => .tup (.inr ⟨o, its, n, ho, hT, hdt, ?_, v1⟩) (by unfold LIM; omega) (v4 S)⟩
                rw [sizeLine_eq]
                have : its.size = its.toList.length := Array.length_toList.symm
                omega
              · cases q3
            · cases q2
          · cases q2
        · cases q
      · cases h3
    exc := fun x C e => by
      rcases kinds x _ e with ⟨r, _, _, h3⟩ | ⟨y, h1, h2, h3⟩ | ⟨y, _, _, h3⟩ | ⟨y, _, _, h3⟩
      · cases h3
      · cases h3
        subst h2
        have q1 := List.all_eq_true.mp k2 y h1
        have hc : cAd D K y.1 = ga K y.2 := by
          unfold cAd
          rw [ok.xs y h1]
          rfl
        show mg y.2 = some (.ref (cAd D K y.1))
        rw [hc]
        exact glo_ok X G q1
      · cases h3
      · cases h3
    meth := fun m C f e => by
      have q := List.all_eq_true.mp k6 _ (lk_mem e)
      unfold methB at q
      cases hk : findK C D.ks with
      | none => rw [show findK (m, C, f).2.1 D.ks = none from hk] at q; cases q
      | some y =>
        rw [show findK (m, C, f).2.1 D.ks = some y from hk] at q
        cases hf : findF f D.fs with
        | none => rw [show findF (m, C, f).2.2 D.fs = none from hf] at q; cases q
        | some r =>
          rw [show findF (m, C, f).2.2 D.fs = some r from hf] at q
          obtain ⟨q1, q⟩ := ba q
          obtain ⟨q2, q3⟩ := ba q
          have hat : r.at_ = (y.name, some m) := of_decide_eq_true q2
          obtain ⟨h1, h2⟩ := findK_mem hk
          subst h2
          have qc := List.all_eq_true.mp kc y h1
          unfold clsB at qc
          obtain ⟨_, qc⟩ := ba qc
          obtain ⟨qc, _⟩ := ba qc
          refine ⟨?_, ?_, ?_, r.d, ?_⟩
          · show Cls K (cAd D K y.id)
            rw [hcK y h1]
            exact cls_ok qc
          · rw [aF f r hf, hat]
            show Meth K (cAd D K y.id) m (ma K (ga K y.name) m)
            rw [hcK y h1]
            exact meth_ok q1
          · show m ∉ D.fl
            split at q3
            · exact ixOf_none (by assumption)
            · cases q3
          · show (findF f D.fs).map (·.d) = _
            rw [hf]
            rfl
    fld := fun C hC => by
      obtain ⟨y, h1, rfl⟩ := ofC C hC
      have q := List.all_eq_true.mp kc y h1
      unfold clsB at q
      obtain ⟨q1, q⟩ := ba q
      obtain ⟨q2, q⟩ := ba q
      obtain ⟨q3, q⟩ := ba q
      obtain ⟨q4, q⟩ := ba q
      refine ⟨?_, fun f hf => ?_⟩
      · show Cls K (cAd D K y.id)
        rw [hcK y h1]
        exact cls_ok q2
      · show NoAttr K (cAd D K y.id) f
        rw [hcK y h1]
        exact noat_ok (List.all_eq_true.mp q4 f hf)
    isc := fun C hC => by
      obtain ⟨y, h1, rfl⟩ := ofC C hC
      have q := List.all_eq_true.mp kc y h1
      unfold clsB at q
      obtain ⟨q1, q⟩ := ba q
      obtain ⟨q2, q⟩ := ba q
      obtain ⟨q3, q⟩ := ba q
      obtain ⟨q4, q⟩ := ba q
      obtain ⟨q5, q⟩ := ba q
      obtain ⟨q6, q⟩ := ba q
      obtain ⟨q7, q⟩ := ba q
      obtain ⟨q8, q⟩ := ba q
      obtain ⟨q9, q10⟩ := ba q
      show PySem.W.findIn K (.ref (cAd D K y.id)) _ = _ ∧ _ ∧ _ ∧ PySem.W.mroIn K (cAd D K y.id) _ = _ ∧ PySem.W.kitOne K _ (.ref (cAd D K y.id)) = _
      rw [hcK y h1]
      exact ⟨eqO_ok q6, eqO_ok q7, of_decide_eq_true q8, of_decide_eq_true q9, of_decide_eq_true q10⟩
    fnd := ndS_ok ok.fl
    sub := fun a b k e => by
      have q := List.all_eq_true.mp k5 _ (findB_mem e)
      unfold subB at q
      obtain ⟨_, q⟩ := ba q
      obtain ⟨q1, q⟩ := ba q
      obtain ⟨q2, q⟩ := ba q
      obtain ⟨q3, q4⟩ := ba q
      exact ⟨excB_ok q1, of_decide_eq_true q2, of_decide_eq_true q3, of_decide_eq_true q4⟩
    rai := fun C b e => by
      have q := List.all_eq_true.mp k5 _ (findB_mem e)
      unfold subB at q
      obtain ⟨q, _⟩ := ba q
      have q : (!(Nat.beq C C) || raiB K (cAd D K C)) = true := q
      rw [show Nat.beq C C = true from Nat.beq_refl C] at q
      have q : raiB K (cAd D K C) = true := q
      unfold raiB at q
      obtain ⟨q1, q⟩ := ba q
      obtain ⟨q2, q⟩ := ba q
      obtain ⟨q3, q4⟩ := ba q
      exact ⟨q1, q2, of_decide_eq_true q3, of_decide_eq_true q4⟩
    nol := nol_ok k0
    blt := fun x hx e => by
      have q := List.all_eq_true.mp k3 x hx
      have e : lkS x D.gl = none := e
      rw [e] at q
      exact free_ok X G q }
/-- a law whose plain equation holds: its function's promise -/
theorem law_of {P : Program} {w : World} {h : Heap} {mg : Str → Option Value} {f : Addr} (X : K.In h) (G : h.Ns mainGlobals mg) (c : SaysX D K) (ok : DatOk D)
    {r : Fr} {x : Str} (hr : r ∈ D.fs) (hat : r.at_ = (r.name, none)) (hp : r.ps = [x]) (hf : mg r.name = some (.ref f)) {lv : Nat} (plain : ∀ ns : List Int, ns.length ≤ 63 → callI D.pg lv r.id [.lst (ns.map Dv.int)] = .ok (.sh (.bl true))) :
    ∃ (fd : FuncData) (sp : Sp), (∀ (s : Shared) (u : Value), BindsTo s fd ⟨[u], []⟩ [(x, u)]) ∧ (∀ (H : Hp) (a : Addr) (ns : List Int), ns.length ≤ 63 → SqL K H a (ns.map V.int) → sp [.ref a] H (fun v _ => v = .bl true) fun _ _ _ => False) ∧
      ∀ base : Heap, FnOk P w K mg base (L2.CX P w) (3 * lv) f fd [x] sp := by
  obtain ⟨fdF, F, st⟩ := stat_of (P := P) (w := w) X G c ok ⟨r, hr⟩
  obtain ⟨O, hfind⟩ := ok.fs r hr
  have ha : ∀ base, (lkOf D P w K mg base fdF).aF r.id = ga K r.name := fun base => by
    show (match findF r.id D.fs with
      | some r => fAd K r.at_
      | none => 0) = _
    rw [hfind]
    show fAd K r.at_ = _
    rw [hat]
    rfl
  have hps : ∀ base, (lkOf D P w K mg base fdF).psF r.id = [x] := fun base => by
    show (match findF r.id D.fs with
      | some r => r.ps
      | none => []) = _
    rw [hfind]
    exact hp
  have hd : ∀ base, (lkOf D P w K mg base fdF).pg.fn r.id = some r.d := fun base => by
    show (findF r.id D.fs).map (·.d) = _
    rw [hfind]
    rfl
  have hfa : f = ga K r.name := by
    have k := c.chk_
    unfold chk at k
    have q := List.all_eq_true.mp (ba (ba k).1).2 r hr
    unfold topB at q
    rw [hat] at q
    have q := glo_ok X G q
    rw [hf] at q
    cases q
    rfl
  refine ⟨fdF r.id, spF (lkOf D P w K mg h fdF) lv r.id, fun s u => ?_, fun H a ns hl hS => ?_, fun base => ?_⟩
  · have b := FunD.bindsA (ps := r.ps) (F r hr) O.bi s [u] (by rw [hp]; rfl)
    rw [hp] at b
    exact b
  · refine ⟨H, [.lst (ns.map Dv.int)], .refl H, .cons (.lst hS (by rw [List.length_map]; unfold LIM; omega) (RepL.ints ns)) .nil, by rw [hps]; rfl, ?_⟩
    have e : callI (lkOf D P w K mg h fdF).pg lv r.id [.lst (ns.map Dv.int)] = .ok (.sh (.bl true)) := plain ns hl
    rw [e]
    intro v H' S' g q
    cases q
    rfl
  · have Q := (fns_all (st base) lv).1 r.id r.d (hd base)
    rw [ha, hps, ← hfa] at Q
    exact Q
end
end Dg

/-! The end of a law. -/
namespace Dg
open PySem PySem.Spec L2 He PyProof.Rows
theorem walk_w {l : PySem.W.OpenLaw} {n k : Nat} {q : Program} {loose : List Str} {XP : (Str → Option Value) → Heap → Prop} {YP : World → Heap → Prop} {d : DefRec} {CX : World → CXT} {x : Str}
    (hn : l.most = some n) (hn2 : n ≤ sizeLine) (hdf : d.params.defaults = []) (hr : Room k callerA)
    (F : ∀ (w : World) (mg : Str → Option Value) (fa : Addr) (h : Heap), YP w h → h.Ns mainGlobals mg → mg d.name = some (.ref fa) →
      ∃ (K : PySem.W.Frag) (fd : FuncData) (sp : Sp), K.In h ∧ (∀ (s : Shared) (u : Value), BindsTo s fd ⟨[u], []⟩ [(x, u)]) ∧
        (∀ (H : Hp) (a : Addr) (ns : List Int), ns.length ≤ n → SqL K H a (ns.map V.int) → sp [.ref a] H (fun v _ => v = .bl true) fun _ _ _ => False) ∧
        ∀ base : Heap, FnOk l.prog w K mg base (CX w) k fa fd [x] sp)
    (hCX : ∀ (w : World) (H : Hp) (s : Shared) (e : Value) (s' : Shared), CX w [] H s (fun _ _ _ => False) e s' → False) :
    PySem.W.WalkO q loose XP YP l.row.toRowW d [] (fun f vs => PySem.call f vs) := by
  refine Att.attach_call hn hdf fun w s₀ s₁ mg mb fa o pm cd doc a vs ns G Y ho hd hcd hmg hobj hints hlen hg => ?_
  obtain ⟨K, fd, sp, KX, hb, hsp, hF⟩ := F w mg fa _ Y G.T.g hmg
  exact law_call KX G.T.g G.T.b G.T.builtins G.T.nolimit hg hobj hints (Nat.le_trans hlen hn2) hr (fun base _ _ => hF base) hb (fun H hO hS => hsp H a ns hlen hS) fun H e s' => hCX w H s₁ e s'
theorem cx_no {P : Program} (w : World) (H : Hp) (s : Shared) (e : Value) (s' : Shared) (h : L2.CX P w [] H s (fun _ _ _ => False) e s') : False := by
  obtain ⟨_, _, _, _, _, _, _, _, _, _, _, _, h⟩ := h
  exact h
/-- a law by its data and its plain equation -/
theorem walk_d {l : PySem.W.OpenLaw} {q : Program} {loose : List Str} {XP : (Str → Option Value) → Heap → Prop} {d : DefRec} {D : Dat} {m lv : Nat} {r : Fr} {x : Str} (hn : l.most = some 63) (hdf : d.params.defaults = []) (hr : Room (3 * lv) callerA) (hname : d.name = r.name)
    (ok : DatOk D) (hr2 : r ∈ D.fs) (hat : r.at_ = (r.name, none)) (hp : r.ps = [x]) (plain : ∀ ns : List Int, ns.length ≤ 63 → callI D.pg lv r.id [.lst (ns.map Dv.int)] = .ok (.sh (.bl true))) :
    PySem.W.WalkO q loose XP (hookX m D).says l.row.toRowW d [] (fun f vs => PySem.call f vs) := by
  refine walk_w (x := x) (CX := fun w => L2.CX l.prog w) hn (by rw [sizeLine_eq]; omega) hdf hr (fun w mg fa h Y G hmg => ?_) cx_no
  obtain ⟨K, KX, c⟩ := Y
  obtain ⟨fd, sp, h1, h2, h3⟩ := law_of (P := l.prog) (w := w) KX G c ok hr2 hat hp (hname ▸ hmg) plain
  exact ⟨K, fd, sp, KX, h1, h2, h3⟩
end Dg

namespace Dg
open PySem PySem.Spec L2 He PyProof.Rows PySem.W
def top (i : Nat) : Stmt := PySem.Challenge.pw_doingbook_k41_wanted.main.body.getD i (.Pass ⟨0, 0, 0, 0⟩)
def inn (i j : Nat) : Stmt := match top i with
  | .ClassDef _ _ _ b .. => b.getD j (.Pass ⟨0, 0, 0, 0⟩)
  | s => s
def b_is_set : Blk :=
  (.cons (.for [] (.nm 2 false) (.rng1 (.bc .len (.cons (.var 1) .nil))) (.cons (.ite [] (.or (.cmp .Lt (.idx (.var 1) (.var 2)) (.cst (.int 0))) (.or (.cmp .GtE (.idx (.var 1) (.var 2)) (.fld (.var 0) 0)) (.and (.cmp .Gt (.var 2) (.cst (.int 0))) (.cmp .LtE (.idx (.var 1) (.var 2)) (.idx (.var 1) (.bin .Sub (.var 2) (.cst (.int 1)))))))) (.cons (.ret [] (.cst (.bl false))) .nil) .nil) .nil))
  (.cons (.ret [] (.cst (.bl true)))
  .nil))
def r_is_set : Fr := ⟨51, ("is_set", none), "is_set", "is_set", ["drawing", "names", "k"], ["drawing", "names"], [], [], top 26, ⟨2, 3, b_is_set, none⟩⟩
def b_look_at_set : Blk :=
  (.cons (.ite [] (.not (.call 51 (.cons (.var 0) (.cons (.var 1) .nil)))) (.cons (.rai 11) .nil) .nil)
  .nil)
def r_look_at_set : Fr := ⟨52, ("look_at_set", none), "look_at_set", "look_at_set", ["drawing", "names"], ["drawing", "names"], [], [], top 27, ⟨2, 2, b_look_at_set, none⟩⟩
def b_pairs_of : Blk :=
  (.cons (.asg [] (.nm 2 true) (.lst .nil))
  (.cons (.for [] (.nm 3 false) (.seq (.var 1)) (.cons (.ite [] (.or (.cmp .NotEq (.bc .len (.cons (.var 3) .nil)) (.cst (.int 2))) (.or (.cmp .Lt (.idx (.var 3) (.cst (.int 0))) (.cst (.int 0))) (.or (.cmp .LtE (.idx (.var 3) (.cst (.int 1))) (.idx (.var 3) (.cst (.int 0)))) (.or (.cmp .GtE (.idx (.var 3) (.cst (.int 1))) (.var 0)) (.cmp .In (.bc .tuple (.cons (.var 3) .nil)) (.var 2)))))) (.cons (.ret [] (.cst .non)) .nil) .nil) (.cons (.mut [] .append 2 (.cons (.bc .tuple (.cons (.var 3) .nil)) .nil)) .nil)))
  (.cons (.ret [] (.bc .tuple (.cons (.bc .sorted (.cons (.var 2) .nil)) .nil)))
  .nil)))
def r_pairs_of : Fr := ⟨42, ("pairs_of", none), "pairs_of", "pairs_of", ["count", "pairs", "found", "pair"], ["count", "pairs"], [2], [], top 28, ⟨2, 4, b_pairs_of, none⟩⟩
def b_Drawing_init : Blk :=
  (.cons (.ite [] (.or (.cmp .Lt (.var 1) (.cst (.int 1))) (.cmp .Gt (.var 1) (.cst (.int 6)))) (.cons (.rai 8) .nil) .nil)
  (.cons (.setf [] 0 (.var 1))
  (.cons (.setf [] 1 (.call 42 (.cons (.var 1) (.cons (.var 2) .nil))))
  (.cons (.ite [] (.cmp .Is (.fld (.var 0) 1) (.cst .non)) (.cons (.rai 9) .nil) .nil)
  (.cons (.setf [] 2 (.call 42 (.cons (.var 1) (.cons (.var 3) .nil))))
  (.cons (.ite [] (.or (.cmp .Is (.fld (.var 0) 2) (.cst .non)) (.cmp .Gt (.bc .len (.cons (.fld (.var 0) 2) .nil)) (.cst (.int 6)))) (.cons (.rai 10) .nil) .nil)
  .nil))))))
def r_Drawing_init : Fr := ⟨44, ("Drawing", some "__init__"), "__init__", "Drawing.__init__", ["self", "count", "ties", "bows"], ["self", "count", "ties", "bows"], [], [], inn 29 0, ⟨4, 4, b_Drawing_init, none⟩⟩
def b_Drawing_ancestors : Blk :=
  (.cons (.expr [] (.call 52 (.cons (.var 0) (.cons (.var 1) .nil))))
  (.cons (.asg [] (.nm 2 true) (.bc .list (.cons (.var 1) .nil)))
  (.cons (.for [] (.tp [3, 4]) (.rev (.bc .sorted (.cons (.comp [3, 4] (.tp [3, 4]) (.seq (.fld (.var 0) 1)) .non (.tup (.cons (.var 4) (.cons (.var 3) .nil)))) .nil))) (.cons (.ite [] (.and (.cmp .In (.var 3) (.var 2)) (.cmp .NotIn (.var 4) (.var 2))) (.cons (.mut [] .append 2 (.cons (.var 4) .nil)) .nil) .nil) .nil))
  (.cons (.ret [] (.bc .tuple (.cons (.bc .sorted (.cons (.var 2) .nil)) .nil)))
  .nil))))
def r_Drawing_ancestors : Fr := ⟨55, ("Drawing", some "ancestors"), "ancestors", "Drawing.ancestors", ["self", "names", "found", "u", "v"], ["self", "names"], [2], [], inn 29 3, ⟨2, 5, b_Drawing_ancestors, none⟩⟩
def b_Drawing_lumps : Blk :=
  (.cons (.expr [] (.call 52 (.cons (.var 0) (.cons (.var 1) .nil))))
  (.cons (.asg [] (.nm 2 true) (.comp [3] (.nm 3 false) (.seq (.var 1)) .non (.tup (.cons (.var 3) .nil))))
  (.cons (.for [] (.tp [4, 5]) (.seq (.fld (.var 0) 2)) (.cons (.ite [] (.and (.cmp .In (.var 4) (.var 1)) (.cmp .In (.var 5) (.var 1))) (.cons (.asg [] (.nm 6 false) (.idx (.comp [7] (.nm 7 false) (.seq (.var 2)) (.som (.cmp .In (.var 4) (.var 7))) (.var 7)) (.cst (.int 0)))) (.cons (.asg [] (.nm 8 false) (.idx (.comp [7] (.nm 7 false) (.seq (.var 2)) (.som (.cmp .In (.var 5) (.var 7))) (.var 7)) (.cst (.int 0)))) (.cons (.ite [] (.cmp .NotEq (.var 6) (.var 8)) (.cons (.asg [] (.nm 2 true) (.comp [7] (.nm 7 false) (.seq (.var 2)) (.som (.cmp .NotIn (.var 7) (.tup (.cons (.var 6) (.cons (.var 8) .nil))))) (.var 7))) (.cons (.mut [] .append 2 (.cons (.bc .tuple (.cons (.bc .sorted (.cons (.bin .Add (.var 6) (.var 8)) .nil)) .nil)) .nil)) .nil)) .nil) .nil))) .nil) .nil))
  (.cons (.ret [] (.bc .sorted (.cons (.var 2) .nil)))
  .nil))))
def r_Drawing_lumps : Fr := ⟨57, ("Drawing", some "lumps"), "lumps", "Drawing.lumps", ["self", "names", "found", "name", "u", "v", "here", "lump", "there"], ["self", "names"], [2], [], inn 29 5, ⟨2, 9, b_Drawing_lumps, none⟩⟩
def b_Drawing_part : Blk :=
  (.cons (.expr [] (.call 52 (.cons (.var 0) (.cons (.var 1) .nil))))
  (.cons (.asg [] (.nm 2 false) (.comp [3, 4] (.tp [3, 4]) (.seq (.fld (.var 0) 1)) (.som (.and (.cmp .In (.var 3) (.var 1)) (.cmp .In (.var 4) (.var 1)))) (.tup (.cons (.var 3) (.cons (.var 4) .nil)))))
  (.cons (.ret [] (.make 43 (.cons (.fld (.var 0) 0) (.cons (.var 2) (.cons (.comp [3, 4] (.tp [3, 4]) (.seq (.fld (.var 0) 2)) (.som (.and (.cmp .In (.var 3) (.var 1)) (.cmp .In (.var 4) (.var 1)))) (.tup (.cons (.var 3) (.cons (.var 4) .nil)))) .nil)))))
  .nil)))
def r_Drawing_part : Fr := ⟨58, ("Drawing", some "part"), "part", "Drawing.part", ["self", "names", "ties", "u", "v"], ["self", "names"], [], [], inn 29 6, ⟨2, 5, b_Drawing_part, none⟩⟩
def b_look_at_question : Blk :=
  (.cons (.asg [] (.tp [2, 3]) (.var 1))
  (.cons (.expr [] (.call 52 (.cons (.var 0) (.cons (.var 2) .nil))))
  (.cons (.expr [] (.call 52 (.cons (.var 0) (.cons (.var 3) .nil))))
  (.cons (.ite [] (.or (.cmp .Eq (.var 3) (.tup .nil)) (.cmp .NotEq (.comp [4] (.nm 4 false) (.seq (.var 3)) (.som (.cmp .In (.var 4) (.var 2))) (.var 4)) (.lst .nil))) (.cons (.rai 12) .nil) .nil)
  .nil))))
def r_look_at_question : Fr := ⟨70, ("look_at_question", none), "look_at_question", "look_at_question", ["drawing", "question", "ones", "asked", "name"], ["drawing", "question"], [], [], top 31, ⟨2, 5, b_look_at_question, none⟩⟩
def b_every_name : Blk :=
  (.cons (.ret [] (.rngT (.cst (.int 0)) (.fld (.var 0) 0)))
  .nil)
def r_every_name : Fr := ⟨71, ("every_name", none), "every_name", "every_name", ["drawing"], ["drawing"], [], [], top 32, ⟨1, 1, b_every_name, none⟩⟩
def b_without : Blk :=
  (.cons (.ret [] (.bc .tuple (.cons (.comp [2] (.nm 2 false) (.seq (.var 0)) (.som (.cmp .NotIn (.var 2) (.var 1))) (.var 2)) .nil)))
  .nil)
def r_without : Fr := ⟨72, ("without", none), "without", "without", ["names", "others", "name"], ["names", "others"], [], [], top 33, ⟨2, 3, b_without, none⟩⟩
def b_wanted : Blk :=
  (.cons (.expr [] (.call 70 (.cons (.var 0) (.cons (.var 1) .nil))))
  (.cons (.asg [] (.tp [2, 3]) (.var 1))
  (.cons (.asg [] (.nm 4 false) (.meth 43 55 (.meth 43 58 (.var 0) (.cons (.call 72 (.cons (.call 71 (.cons (.var 0) .nil)) (.cons (.var 2) .nil))) .nil)) (.cons (.var 3) .nil)))
  (.cons (.ret [] (.tup (.cons (.var 4) (.cons (.meth 43 57 (.var 0) (.cons (.var 4) .nil)) .nil))))
  .nil))))
def r_wanted : Fr := ⟨73, ("wanted", none), "wanted", "wanted", ["drawing", "question", "ones", "asked", "names"], ["drawing", "question"], [], [], top 34, ⟨2, 5, b_wanted, none⟩⟩
def b_l_cell_at : Blk :=
  (.cons (.ite [] (.cmp .Lt (.var 1) (.bc .len (.cons (.var 0) .nil))) (.cons (.ret [] (.idx (.var 0) (.var 1))) .nil) .nil)
  (.cons (.ret [] (.cst (.int 0)))
  .nil))
def r_l_cell_at : Fr := ⟨29, ("_law_cell_at", none), "_law_cell_at", "_law_cell_at", ["_law_script", "_law_k"], ["_law_script", "_law_k"], [], [], top 36, ⟨2, 2, b_l_cell_at, none⟩⟩
def b_l_mix : Blk :=
  (.cons (.ite [] (.cmp .GtE (.var 0) (.bin .Pow (.cst (.int 10)) (.cst (.int 18)))) (.cons (.ret [] (.bin .Sub (.var 0) (.bin .Pow (.cst (.int 10)) (.cst (.int 18))))) .nil) .nil)
  (.cons (.asg [] (.nm 2 false) (.bin .Mod (.var 0) (.bin .Pow (.cst (.int 10)) (.cst (.int 60)))))
  (.cons (.asg [] (.nm 2 false) (.bin .Mod (.bin .Mult (.bin .Add (.bin .Add (.bin .Mult (.var 2) (.var 2)) (.bin .Mult (.bin .Mult (.cst (.int 40503)) (.var 1)) (.var 1))) (.cst (.int 7919))) (.cst (.int 1812433253982451697))) (.bin .Add (.bin .Pow (.cst (.int 10)) (.cst (.int 18))) (.cst (.int 9)))))
  (.cons (.ret [] (.bin .Mod (.bin .Mult (.bin .Add (.bin .Mult (.var 2) (.var 2)) (.var 1)) (.cst (.int 739108512309184756019283746561))) (.bin .Add (.bin .Pow (.cst (.int 10)) (.cst (.int 40))) (.cst (.int 121)))))
  .nil))))
def r_l_mix : Fr := ⟨74, ("_law_mix", none), "_law_mix", "_law_mix", ["_law_unit", "_law_k", "_law_number"], ["_law_unit", "_law_k"], [], [], top 37, ⟨2, 3, b_l_mix, none⟩⟩
def b_l_drawing : Blk :=
  (.cons (.asg [] (.nm 3 false) (.bin .Add (.var 1) (.bin .Mod (.var 0) (.bin .Add (.bin .Sub (.var 2) (.var 1)) (.cst (.int 1))))))
  (.cons (.asg [] (.nm 0 false) (.bin .FloorDiv (.var 0) (.bin .Add (.bin .Sub (.var 2) (.var 1)) (.cst (.int 1)))))
  (.cons (.asg [] (.nm 4 true) (.lst .nil))
  (.cons (.asg [] (.nm 5 true) (.lst .nil))
  (.cons (.for [] (.nm 6 false) (.rng1 (.var 3)) (.cons (.for [] (.nm 7 false) (.rng1 (.var 6)) (.cons (.ite [] (.cmp .Eq (.bin .Mod (.bin .Mod (.var 0) (.cst (.int 6))) (.cst (.int 2))) (.cst (.int 1))) (.cons (.mut [] .append 4 (.cons (.tup (.cons (.var 7) (.cons (.var 6) .nil))) .nil)) .nil) .nil) (.cons (.ite [] (.and (.cmp .Eq (.bin .FloorDiv (.bin .Mod (.var 0) (.cst (.int 6))) (.cst (.int 2))) (.cst (.int 2))) (.cmp .Lt (.bc .len (.cons (.var 5) .nil)) (.cst (.int 6)))) (.cons (.mut [] .append 5 (.cons (.tup (.cons (.var 7) (.cons (.var 6) .nil))) .nil)) .nil) .nil) (.cons (.asg [] (.nm 0 false) (.bin .FloorDiv (.var 0) (.cst (.int 6)))) .nil)))) .nil))
  (.cons (.ret [] (.lst (.cons (.var 3) (.cons (.bc .sorted (.cons (.var 4) .nil)) (.cons (.bc .sorted (.cons (.var 5) .nil)) .nil)))))
  .nil))))))
def r_l_drawing : Fr := ⟨75, ("_law_drawing", none), "_law_drawing", "_law_drawing", ["_law_number", "_law_least", "_law_most", "_law_count", "_law_ties", "_law_bows", "_law_v", "_law_u"], ["_law_number", "_law_least", "_law_most"], [4, 5], [], top 38, ⟨3, 8, b_l_drawing, none⟩⟩
def b_l_question : Blk :=
  (.cons (.asg [] (.nm 2 true) (.lst .nil))
  (.cons (.asg [] (.nm 3 true) (.lst .nil))
  (.cons (.for [] (.nm 4 false) (.rng1 (.var 1)) (.cons (.asg [] (.nm 5 false) (.bin .Mod (.var 0) (.cst (.int 5)))) (.cons (.asg [] (.nm 0 false) (.bin .FloorDiv (.var 0) (.cst (.int 5)))) (.cons (.ite [] (.or (.cmp .Eq (.var 5) (.cst (.int 0))) (.cmp .Eq (.var 5) (.cst (.int 1)))) (.cons (.mut [] .append 2 (.cons (.var 4) .nil)) .nil) .nil) (.cons (.ite [] (.cmp .Eq (.var 5) (.cst (.int 2))) (.cons (.mut [] .append 3 (.cons (.var 4) .nil)) .nil) .nil) .nil)))))
  (.cons (.ite [] (.cmp .Eq (.bc .len (.cons (.var 3) .nil)) (.cst (.int 0))) (.cons (.asg [] (.nm 3 true) (.lst (.cons (.bin .Sub (.var 1) (.cst (.int 1))) .nil))) (.cons (.asg [] (.nm 2 true) (.comp [4] (.nm 4 false) (.seq (.var 2)) (.som (.cmp .Lt (.var 4) (.bin .Sub (.var 1) (.cst (.int 1))))) (.var 4))) .nil)) .nil)
  (.cons (.ret [] (.tup (.cons (.bc .tuple (.cons (.var 2) .nil)) (.cons (.bc .tuple (.cons (.var 3) .nil)) .nil))))
  .nil)))))
def r_l_question : Fr := ⟨76, ("_law_question", none), "_law_question", "_law_question", ["_law_number", "_law_count", "_law_ones", "_law_asked", "_law_name", "_law_way"], ["_law_number", "_law_count"], [2, 3], [], top 39, ⟨2, 6, b_l_question, none⟩⟩
def b_l_upper : Blk :=
  (.cons (.asg [] (.nm 3 true) (.comp [4] (.nm 4 false) (.seq (.var 2)) .non (.var 4)))
  (.cons (.for [] (.nm 5 false) (.seq (.var 1)) (.cons (.for [] (.tp [6, 7]) (.seq (.idx (.var 0) (.cst (.int 1)))) (.cons (.ite [] (.and (.cmp .In (.var 7) (.var 3)) (.and (.cmp .In (.var 6) (.var 1)) (.cmp .NotIn (.var 6) (.var 3)))) (.cons (.mut [] .append 3 (.cons (.var 6) .nil)) .nil) .nil) .nil)) .nil))
  (.cons (.ret [] (.bc .tuple (.cons (.bc .sorted (.cons (.var 3) .nil)) .nil)))
  .nil)))
def r_l_upper : Fr := ⟨62, ("_law_upper", none), "_law_upper", "_law_upper", ["_law_shape", "_law_names", "_law_ends", "_law_got", "_law_name", "_law_turn", "_law_u", "_law_v"], ["_law_shape", "_law_names", "_law_ends"], [3], [], top 40, ⟨3, 8, b_l_upper, none⟩⟩
def b_l_lumps : Blk :=
  (.cons (.asg [] (.nm 2 true) (.lst .nil))
  (.cons (.asg [] (.nm 3 false) (.bc .list (.cons (.var 1) .nil)))
  (.cons (.whl [] (.cmp .Gt (.bc .len (.cons (.var 3) .nil)) (.cst (.int 0))) (.cons (.asg [] (.nm 4 true) (.lst (.cons (.idx (.var 3) (.cst (.int 0))) .nil))) (.cons (.for [] (.nm 5 false) (.seq (.var 1)) (.cons (.for [] (.tp [6, 7]) (.seq (.idx (.var 0) (.cst (.int 2)))) (.cons (.ite [] (.and (.cmp .In (.var 6) (.var 1)) (.and (.cmp .In (.var 7) (.var 1)) (.cmp .NotEq (.cmp .In (.var 6) (.var 4)) (.cmp .In (.var 7) (.var 4))))) (.cons (.mut [] .append 4 (.cons (.idx (.lst (.cons (.var 6) (.cons (.var 7) .nil))) (.bc .int (.cons (.cmp .In (.var 6) (.var 4)) .nil))) .nil)) .nil) .nil) .nil)) .nil)) (.cons (.mut [] .append 2 (.cons (.bc .tuple (.cons (.bc .sorted (.cons (.var 4) .nil)) .nil)) .nil)) (.cons (.asg [] (.nm 3 false) (.comp [8] (.nm 8 false) (.seq (.var 3)) (.som (.cmp .NotIn (.var 8) (.var 4))) (.var 8))) .nil)))))
  (.cons (.retv 2)
  .nil))))
def r_l_lumps : Fr := ⟨64, ("_law_lumps", none), "_law_lumps", "_law_lumps", ["_law_shape", "_law_names", "_law_lumps_here", "_law_left", "_law_lump", "_law_turn", "_law_u", "_law_v", "_law_name"], ["_law_shape", "_law_names"], [2, 4], [], top 41, ⟨2, 9, b_l_lumps, none⟩⟩
def b_l_wanted : Blk :=
  (.cons (.asg [] (.nm 2 false) (.comp [3] (.nm 3 false) (.rng1 (.idx (.var 0) (.cst (.int 0)))) (.som (.cmp .NotIn (.var 3) (.idx (.var 1) (.cst (.int 0))))) (.var 3)))
  (.cons (.ret [] (.call 62 (.cons (.var 0) (.cons (.var 2) (.cons (.idx (.var 1) (.cst (.int 1))) .nil)))))
  .nil))
def r_l_wanted : Fr := ⟨77, ("_law_wanted", none), "_law_wanted", "_law_wanted", ["_law_shape", "_law_question_here", "_law_names", "_law_name"], ["_law_shape", "_law_question_here"], [], [], top 42, ⟨2, 4, b_l_wanted, none⟩⟩
def b_l_class : Blk :=
  (.cons (.asg [] (.nm 1 false) (.lst (.cons (.isa (.var 0) 18) (.cons (.isa (.var 0) 25) (.cons (.isa (.var 0) 22) .nil)))))
  (.cons (.asg [] (.nm 1 false) (.bin .Add (.var 1) (.lst (.cons (.isa (.var 0) 10) (.cons (.isa (.var 0) 8) (.cons (.isa (.var 0) 20) .nil))))))
  (.cons (.asg [] (.nm 1 false) (.bin .Add (.var 1) (.lst (.cons (.isa (.var 0) 24) (.cons (.isa (.var 0) 7) (.cons (.isa (.var 0) 11) .nil))))))
  (.cons (.asg [] (.nm 1 false) (.bin .Add (.var 1) (.lst (.cons (.isa (.var 0) 19) (.cons (.isa (.var 0) 23) (.cons (.isa (.var 0) 16) .nil))))))
  (.cons (.asg [] (.nm 1 false) (.bin .Add (.var 1) (.lst (.cons (.isa (.var 0) 17) (.cons (.isa (.var 0) 12) (.cons (.isa (.var 0) 15) .nil))))))
  (.cons (.asg [] (.nm 1 false) (.bin .Add (.var 1) (.lst (.cons (.isa (.var 0) 26) (.cons (.isa (.var 0) 21) (.cons (.isa (.var 0) 9) .nil))))))
  (.cons (.asg [] (.nm 1 false) (.bin .Add (.var 1) (.lst (.cons (.isa (.var 0) 14) (.cons (.isa (.var 0) 13) .nil)))))
  (.cons (.ite [] (.or (.not (.isa (.var 0) 6)) (.or (.not (.isv (.var 0))) (.cmp .NotEq (.bc .sum (.cons (.comp [2] (.nm 2 false) (.seq (.var 1)) .non (.bc .int (.cons (.var 2) .nil))) .nil)) (.cst (.int 1))))) (.cons (.ret [] (.cst (.str ""))) .nil) .nil)
  (.cons (.asg [] (.nm 3 false) (.lst (.cons (.cst (.str "BadPaper")) (.cons (.cst (.str "BadStep")) (.cons (.cst (.str "NoAnswer")) (.cons (.cst (.str "NoBow")) (.cons (.cst (.str "NoCount")) (.cons (.cst (.str "NoDoor")) (.cons (.cst (.str "NoFormula")) (.cons (.cst (.str "NoFraction")) (.cons (.cst (.str "NoName")) .nil)))))))))))
  (.cons (.asg [] (.nm 3 false) (.bin .Add (.var 3) (.lst (.cons (.cst (.str "NoNest")) (.cons (.cst (.str "NoQuestion")) (.cons (.cst (.str "NoRoad")) (.cons (.cst (.str "NoRule")) (.cons (.cst (.str "NoSets")) (.cons (.cst (.str "NoShare")) (.cons (.cst (.str "NoText")) (.cons (.cst (.str "NoThinning")) (.cons (.cst (.str "NoTie")) .nil))))))))))))
  (.cons (.ret [] (.idx (.bin .Add (.var 3) (.lst (.cons (.cst (.str "NoValue")) (.cons (.cst (.str "NoWorld")) .nil)))) (.lix (.var 1) (.cons (.cst (.bl true)) .nil))))
  .nil)))))))))))
def r_l_class : Fr := ⟨79, ("_law_class", none), "_law_class", "_law_class", ["_law_kept", "_law_got", "_law_one", "_law_words"], ["_law_kept"], [], [], top 44, ⟨1, 4, b_l_class, none⟩⟩
def b_l_is_names : Blk :=
  (.cons (.for [] (.nm 2 false) (.rng1 (.bc .len (.cons (.var 1) .nil))) (.cons (.ite [] (.or (.cmp .Lt (.idx (.var 1) (.var 2)) (.cst (.int 0))) (.or (.cmp .GtE (.idx (.var 1) (.var 2)) (.var 0)) (.and (.cmp .Gt (.var 2) (.cst (.int 0))) (.cmp .LtE (.idx (.var 1) (.var 2)) (.idx (.var 1) (.bin .Sub (.var 2) (.cst (.int 1)))))))) (.cons (.ret [] (.cst (.bl false))) .nil) .nil) .nil))
  (.cons (.ret [] (.cst (.bl true)))
  .nil))
def r_l_is_names : Fr := ⟨80, ("_law_is_names", none), "_law_is_names", "_law_is_names", ["_law_count", "_law_names", "_law_k"], ["_law_count", "_law_names"], [], [], top 45, ⟨2, 3, b_l_is_names, none⟩⟩
def b_l_spoilt : Blk :=
  (.cons (.asg [] (.tp [3, 4]) (.var 0))
  (.cons (.asg [] (.nm 5 false) (.bin .Mod (.var 1) (.cst (.int 7))))
  (.cons (.asg [] (.nm 1 false) (.bin .FloorDiv (.var 1) (.cst (.int 7))))
  (.cons (.ite [] (.cmp .Eq (.var 5) (.cst (.int 0))) (.cons (.asg [] (.nm 4 false) (.tup .nil)) .nil) .nil)
  (.cons (.ite [] (.cmp .Eq (.var 5) (.cst (.int 1))) (.cons (.asg [] (.nm 3 false) (.bc .tuple (.cons (.bc .sorted (.cons (.bin .Add (.bc .list (.cons (.var 3) .nil)) (.bc .list (.cons (.slc (.var 4) .non (.som (.cst (.int 1)))) .nil))) .nil)) .nil))) .nil) .nil)
  (.cons (.ite [] (.cmp .Eq (.var 5) (.cst (.int 2))) (.cons (.asg [] (.nm 3 false) (.bin .Add (.var 3) (.tup (.cons (.bin .Add (.var 2) (.bin .Mod (.var 1) (.cst (.int 3)))) .nil)))) .nil) .nil)
  (.cons (.ite [] (.cmp .Eq (.var 5) (.cst (.int 3))) (.cons (.asg [] (.nm 4 false) (.bin .Add (.tup (.cons (.neg (.cst (.int 1))) .nil)) (.var 4))) .nil) .nil)
  (.cons (.ite [] (.cmp .Eq (.var 5) (.cst (.int 4))) (.cons (.asg [] (.nm 4 false) (.bin .Add (.var 4) (.slc (.var 4) (.som (.neg (.cst (.int 1)))) .non))) .nil) .nil)
  (.cons (.ite [] (.cmp .Eq (.var 5) (.cst (.int 5))) (.cons (.asg [] (.nm 3 false) (.revR (.var 2))) .nil) .nil)
  (.cons (.ite [] (.cmp .Eq (.var 5) (.cst (.int 6))) (.cons (.asg [] (.nm 3 false) (.rngT (.cst (.int 0)) (.var 2))) .nil) .nil)
  (.cons (.ret [] (.tup (.cons (.var 3) (.cons (.var 4) .nil))))
  .nil)))))))))))
def r_l_spoilt : Fr := ⟨81, ("_law_spoilt", none), "_law_spoilt", "_law_spoilt", ["_law_question_here", "_law_number", "_law_count", "_law_ones", "_law_asked", "_law_way"], ["_law_question_here", "_law_number", "_law_count"], [], [], top 46, ⟨3, 6, b_l_spoilt, none⟩⟩
def b_l_due : Blk :=
  (.cons (.asg [] (.tp [2, 3]) (.var 1))
  (.cons (.ite [] (.or (.not (.call 80 (.cons (.var 0) (.cons (.var 2) .nil)))) (.not (.call 80 (.cons (.var 0) (.cons (.var 3) .nil))))) (.cons (.ret [] (.cst (.str "NoName"))) .nil) .nil)
  (.cons (.ite [] (.or (.cmp .Eq (.bc .len (.cons (.var 3) .nil)) (.cst (.int 0))) (.cmp .NotEq (.comp [4] (.nm 4 false) (.seq (.var 3)) (.som (.cmp .In (.var 4) (.var 2))) (.var 4)) (.lst .nil))) (.cons (.ret [] (.cst (.str "NoSets"))) .nil) .nil)
  (.cons (.ret [] (.cst (.str "")))
  .nil))))
def r_l_due : Fr := ⟨65, ("_law_due", none), "_law_due", "_law_due", ["_law_count", "_law_question_here", "_law_ones", "_law_asked", "_law_name"], ["_law_count", "_law_question_here"], [], [], top 47, ⟨2, 5, b_l_due, none⟩⟩
def b_law : Blk :=
  (.cons (.asg [] (.nm 1 false) (.call 74 (.cons (.call 29 (.cons (.var 0) (.cons (.cst (.int 0)) .nil))) (.cons (.cst (.int 0)) .nil))))
  (.cons (.asg [] (.nm 2 false) (.call 75 (.cons (.call 74 (.cons (.call 29 (.cons (.var 0) (.cons (.cst (.int 1)) .nil))) (.cons (.cst (.int 1)) .nil))) (.cons (.cst (.int 1)) (.cons (.cst (.int 6)) .nil)))))
  (.cons (.asg [] (.nm 3 false) (.call 76 (.cons (.call 74 (.cons (.call 29 (.cons (.var 0) (.cons (.cst (.int 2)) .nil))) (.cons (.cst (.int 2)) .nil))) (.cons (.idx (.var 2) (.cst (.int 0))) .nil))))
  (.cons (.ite [] (.cmp .Eq (.bin .Mod (.var 1) (.cst (.int 3))) (.cst (.int 1))) (.cons (.asg [] (.nm 3 false) (.call 81 (.cons (.var 3) (.cons (.bin .FloorDiv (.var 1) (.cst (.int 3))) (.cons (.idx (.var 2) (.cst (.int 0))) .nil))))) .nil) .nil)
  (.cons (.asg [] (.nm 4 false) (.call 65 (.cons (.idx (.var 2) (.cst (.int 0))) (.cons (.var 3) .nil))))
  (.cons (.asg [] (.nm 5 false) (.make 43 (.cons (.idx (.var 2) (.cst (.int 0))) (.cons (.bc .list (.cons (.idx (.var 2) (.cst (.int 1))) .nil)) (.cons (.bc .list (.cons (.idx (.var 2) (.cst (.int 2))) .nil)) .nil)))))
  (.cons (.asg [] (.nm 6 false) (.cst .non))
  (.cons (.asg [] (.nm 7 false) (.cst .non))
  (.cons (.lnd 6 (.call 73 (.cons (.var 5) (.cons (.var 3) .nil))) 6 8 7 (.ret (.cmp .NotEq (.var 4) (.cst (.str ""))) (.cmp .Eq (.call 79 (.cons (.var 7) .nil)) (.var 4)) (.asg 9 (.call 77 (.cons (.var 2) (.cons (.var 3) .nil))) (.ret (.or (.cmp .IsNot (.var 7) (.cst .non)) (.or (.not (.isty (.var 6) .tuple)) (.cmp .NotEq (.var 6) (.tup (.cons (.var 9) (.cons (.call 64 (.cons (.var 2) (.cons (.var 9) .nil))) .nil)))))) (.cst (.bl false)) .nil))) (.seq (.clr 6 [1]) .nop))
  (.cons (.ret [] (.cmp .Eq (.call 73 (.cons (.var 5) (.cons (.var 3) .nil))) (.tup (.cons (.var 9) (.cons (.call 64 (.cons (.var 2) (.cons (.var 9) .nil))) .nil)))))
  .nil))))))))))
def r_law : Fr := ⟨5, ("law", none), "law", "law", ["_law_script", "_law_head", "_law_shape", "_law_question_here", "_law_due_here", "_law_drawing_here", "_law_told", "_law_kept", "e", "_law_names"], ["_law_script"], [], [(262, 4, 1001)], top 48, ⟨1, 10, b_law, none⟩⟩
def dat : Dat := ⟨[r_is_set, r_look_at_set, r_pairs_of, r_Drawing_init, r_Drawing_ancestors, r_Drawing_lumps, r_Drawing_part, r_look_at_question, r_every_name, r_without, r_wanted, r_l_cell_at, r_l_mix, r_l_drawing, r_l_question, r_l_upper, r_l_lumps, r_l_wanted, r_l_class, r_l_is_names, r_l_spoilt, r_l_due, r_law], [(6, "DoingError"), (7, "NoFraction"), (8, "NoCount"), (9, "NoTie"), (10, "NoBow"), (11, "NoName"), (12, "NoSets"), (13, "NoWorld"), (14, "NoValue"), (15, "NoShare"), (16, "NoRoad"), (17, "NoRule"), (18, "BadPaper"), (19, "NoNest"), (20, "NoDoor"), (21, "NoThinning"), (22, "NoAnswer"), (23, "NoQuestion"), (24, "NoFormula"), (25, "BadStep"), (26, "NoText")], [("MOST_NAMES", .int 6), ("MOST_BOWS", .int 6)], [(8, 6, true), (8, 7, false), (8, 8, true), (8, 9, false), (8, 10, false), (8, 11, false), (8, 12, false), (8, 13, false), (8, 14, false), (8, 15, false), (8, 16, false), (8, 17, false), (8, 18, false), (8, 19, false), (8, 20, false), (8, 21, false), (8, 22, false), (8, 23, false), (8, 24, false), (8, 25, false), (8, 26, false), (9, 6, true), (9, 7, false), (9, 8, false), (9, 9, true), (9, 10, false), (9, 11, false), (9, 12, false), (9, 13, false), (9, 14, false), (9, 15, false), (9, 16, false), (9, 17, false), (9, 18, false), (9, 19, false), (9, 20, false), (9, 21, false), (9, 22, false), (9, 23, false), (9, 24, false), (9, 25, false), (9, 26, false), (10, 6, true), (10, 7, false), (10, 8, false), (10, 9, false), (10, 10, true), (10, 11, false), (10, 12, false), (10, 13, false), (10, 14, false), (10, 15, false), (10, 16, false), (10, 17, false), (10, 18, false), (10, 19, false), (10, 20, false), (10, 21, false), (10, 22, false), (10, 23, false), (10, 24, false), (10, 25, false), (10, 26, false), (11, 6, true), (11, 7, false), (11, 8, false), (11, 9, false), (11, 10, false), (11, 11, true), (11, 12, false), (11, 13, false), (11, 14, false), (11, 15, false), (11, 16, false), (11, 17, false), (11, 18, false), (11, 19, false), (11, 20, false), (11, 21, false), (11, 22, false), (11, 23, false), (11, 24, false), (11, 25, false), (11, 26, false), (12, 6, true), (12, 7, false), (12, 8, false), (12, 9, false), (12, 10, false), (12, 11, false), (12, 12, true), (12, 13, false), (12, 14, false), (12, 15, false), (12, 16, false), (12, 17, false), (12, 18, false), (12, 19, false), (12, 20, false), (12, 21, false), (12, 22, false), (12, 23, false), (12, 24, false), (12, 25, false), (12, 26, false)], [⟨43, "Drawing", 44⟩], ["count", "ties", "bows"], [("ancestors", 43, 55), ("lumps", 43, 57), ("part", 43, 58)]⟩
-- CHECKS
theorem ok_is_set : FrOk dat r_is_set := ⟨by decide +kernel, rfl, rfl, by kernel_rfl, (fun X h => by cases h), fun _ _ _ _ _ _ us hl => match us, hl with | [_, _], _ => rfl⟩
theorem ok_look_at_set : FrOk dat r_look_at_set := ⟨by decide +kernel, rfl, rfl, by kernel_rfl, (fun X h => by cases h), fun _ _ _ _ _ _ us hl => match us, hl with | [_, _], _ => rfl⟩
theorem ok_pairs_of : FrOk dat r_pairs_of := ⟨by decide +kernel, rfl, rfl, by kernel_rfl, (fun X h => by cases h), fun _ _ _ _ _ _ us hl => match us, hl with | [_, _], _ => rfl⟩
theorem ok_Drawing_init : FrOk dat r_Drawing_init := ⟨by decide +kernel, rfl, rfl, by kernel_rfl, (fun X h => by cases h), fun _ _ _ _ _ _ us hl => match us, hl with | [_, _, _, _], _ => rfl⟩
theorem ok_Drawing_ancestors : FrOk dat r_Drawing_ancestors := ⟨by decide +kernel, rfl, rfl, by kernel_rfl, (fun X h => by cases h), fun _ _ _ _ _ _ us hl => match us, hl with | [_, _], _ => rfl⟩
theorem ok_Drawing_lumps : FrOk dat r_Drawing_lumps := ⟨by decide +kernel, rfl, rfl, by kernel_rfl, (fun X h => by cases h), fun _ _ _ _ _ _ us hl => match us, hl with | [_, _], _ => rfl⟩
theorem ok_Drawing_part : FrOk dat r_Drawing_part := ⟨by decide +kernel, rfl, rfl, by kernel_rfl, (fun X h => by cases h), fun _ _ _ _ _ _ us hl => match us, hl with | [_, _], _ => rfl⟩
theorem ok_look_at_question : FrOk dat r_look_at_question := ⟨by decide +kernel, rfl, rfl, by kernel_rfl, (fun X h => by cases h), fun _ _ _ _ _ _ us hl => match us, hl with | [_, _], _ => rfl⟩
theorem ok_every_name : FrOk dat r_every_name := ⟨by decide +kernel, rfl, rfl, by kernel_rfl, (fun X h => by cases h), fun _ _ _ _ _ _ us hl => match us, hl with | [_], _ => rfl⟩
theorem ok_without : FrOk dat r_without := ⟨by decide +kernel, rfl, rfl, by kernel_rfl, (fun X h => by cases h), fun _ _ _ _ _ _ us hl => match us, hl with | [_, _], _ => rfl⟩
theorem ok_wanted : FrOk dat r_wanted := ⟨by decide +kernel, rfl, rfl, by kernel_rfl, (fun X h => by cases h), fun _ _ _ _ _ _ us hl => match us, hl with | [_, _], _ => rfl⟩
theorem ok_l_cell_at : FrOk dat r_l_cell_at := ⟨by decide +kernel, rfl, rfl, by kernel_rfl, (fun X h => by cases h), fun _ _ _ _ _ _ us hl => match us, hl with | [_, _], _ => rfl⟩
theorem ok_l_mix : FrOk dat r_l_mix := ⟨by decide +kernel, rfl, rfl, by kernel_rfl, (fun X h => by cases h), fun _ _ _ _ _ _ us hl => match us, hl with | [_, _], _ => rfl⟩
theorem ok_l_drawing : FrOk dat r_l_drawing := ⟨by decide +kernel, rfl, rfl, by kernel_rfl, (fun X h => by cases h), fun _ _ _ _ _ _ us hl => match us, hl with | [_, _, _], _ => rfl⟩
theorem ok_l_question : FrOk dat r_l_question := ⟨by decide +kernel, rfl, rfl, by kernel_rfl, (fun X h => by cases h), fun _ _ _ _ _ _ us hl => match us, hl with | [_, _], _ => rfl⟩
theorem ok_l_upper : FrOk dat r_l_upper := ⟨by decide +kernel, rfl, rfl, by kernel_rfl, (fun X h => by cases h), fun _ _ _ _ _ _ us hl => match us, hl with | [_, _, _], _ => rfl⟩
theorem ok_l_lumps : FrOk dat r_l_lumps := ⟨by decide +kernel, rfl, rfl, by kernel_rfl, (fun X h => by cases h), fun _ _ _ _ _ _ us hl => match us, hl with | [_, _], _ => rfl⟩
theorem ok_l_wanted : FrOk dat r_l_wanted := ⟨by decide +kernel, rfl, rfl, by kernel_rfl, (fun X h => by cases h), fun _ _ _ _ _ _ us hl => match us, hl with | [_, _], _ => rfl⟩
theorem ok_l_class : FrOk dat r_l_class := ⟨by decide +kernel, rfl, rfl, by kernel_rfl, (fun X h => by cases h), fun _ _ _ _ _ _ us hl => match us, hl with | [_], _ => rfl⟩
theorem ok_l_is_names : FrOk dat r_l_is_names := ⟨by decide +kernel, rfl, rfl, by kernel_rfl, (fun X h => by cases h), fun _ _ _ _ _ _ us hl => match us, hl with | [_, _], _ => rfl⟩
theorem ok_l_spoilt : FrOk dat r_l_spoilt := ⟨by decide +kernel, rfl, rfl, by kernel_rfl, (fun X h => by cases h), fun _ _ _ _ _ _ us hl => match us, hl with | [_, _, _], _ => rfl⟩
theorem ok_l_due : FrOk dat r_l_due := ⟨by decide +kernel, rfl, rfl, by kernel_rfl, (fun X h => by cases h), fun _ _ _ _ _ _ us hl => match us, hl with | [_, _], _ => rfl⟩
theorem ok_law : FrOk dat r_law := ⟨by decide +kernel, rfl, rfl, by kernel_rfl, (fun X h => by cases h), fun _ _ _ _ _ _ us hl => match us, hl with | [_], _ => rfl⟩
theorem dat_fs : ∀ r ∈ dat.fs, FrOk dat r ∧ findF r.id dat.fs = some r := by
  intro r h
  unfold dat at h
  simp only [List.mem_cons, List.not_mem_nil, or_false] at h
  rcases h with rfl | rfl | rfl | rfl | rfl | rfl | rfl | rfl | rfl | rfl | rfl | rfl | rfl | rfl | rfl | rfl | rfl | rfl | rfl | rfl | rfl | rfl | rfl
  · exact ⟨ok_is_set, rfl⟩
  · exact ⟨ok_look_at_set, rfl⟩
  · exact ⟨ok_pairs_of, rfl⟩
  · exact ⟨ok_Drawing_init, rfl⟩
  · exact ⟨ok_Drawing_ancestors, rfl⟩
  · exact ⟨ok_Drawing_lumps, rfl⟩
  · exact ⟨ok_Drawing_part, rfl⟩
  · exact ⟨ok_look_at_question, rfl⟩
  · exact ⟨ok_every_name, rfl⟩
  · exact ⟨ok_without, rfl⟩
  · exact ⟨ok_wanted, rfl⟩
  · exact ⟨ok_l_cell_at, rfl⟩
  · exact ⟨ok_l_mix, rfl⟩
  · exact ⟨ok_l_drawing, rfl⟩
  · exact ⟨ok_l_question, rfl⟩
  · exact ⟨ok_l_upper, rfl⟩
  · exact ⟨ok_l_lumps, rfl⟩
  · exact ⟨ok_l_wanted, rfl⟩
  · exact ⟨ok_l_class, rfl⟩
  · exact ⟨ok_l_is_names, rfl⟩
  · exact ⟨ok_l_spoilt, rfl⟩
  · exact ⟨ok_l_due, rfl⟩
  · exact ⟨ok_law, rfl⟩
theorem dat_ks : ∀ k ∈ dat.ks, findX k.id (dat.xs ++ dat.ks.map fun k => (k.id, k.name)) = some k.name ∧ findK k.id dat.ks = some k := by
  intro k h
  unfold dat at h
  simp only [List.mem_cons, List.not_mem_nil, or_false] at h
  rcases h with rfl
  · exact ⟨by rfl, by rfl⟩
theorem dat_ok : DatOk dat := ⟨dat_fs, by decide +kernel, dat_ks, by decide +kernel⟩

set_option maxHeartbeats 0
/-! ### the head -/
def lo0 : List PySem.Str := ["_wall", "DoingError", "NoFraction", "NoCount", "NoTie", "NoBow", "NoName", "NoSets", "NoWorld", "NoValue", "NoShare", "NoRoad", "NoRule", "BadPaper", "NoNest", "NoDoor", "NoThinning", "NoAnswer", "NoQuestion", "NoFormula", "BadStep", "NoText", "MOST_NAMES", "MOST_BOWS", "is_set", "look_at_set", "pairs_of", "Drawing", "look_at_question", "every_name"]
def lo1 : List PySem.Str := ["without", "wanted", "_law_cell_at", "_law_mix", "_law_drawing", "_law_question", "_law_upper", "_law_lumps", "_law_wanted", "_law_lump_with", "_law_class", "_law_is_names", "_law_spoilt", "_law_due"]
abbrev lo : List PySem.Str := lo0 ++ lo1
abbrev RR : PySem.W.OpenRow := PySem.W.OpenLaw.row PySem.Challenge.rw_doingbook_k41_wanted
abbrev hk : PySem.W.Hook := hookX 4 dat
def ob (s : PySem.W.SharedT) : He.AlD := obsXG 4 dat (HandSHeadRun.getT s)
theorem ob_eq (s : PySem.W.SharedT) : ob s = hk.obs s.abs := obsXG_eq (HandSHeadRun.getT_eq s)
theorem run (w : World) : HandSHeadRun.RunEq RR (PySem.W.view RR.prog [48]) hk ob 20000 lo w := by
  intro os
  kernel_rfl
set_option maxHeartbeats 4000000
end Dg
/-! Plain steps: the operators on whole numbers, one call. -/
namespace Dg
open PySem
theorem ok_int (i : Int) : okD (.int i) = true := rfl
theorem ok_bl (b : Bool) : okD (.bl b) = true := rfl
theorem eq_int (i j : Int) : eqD (.int i) (.int j) = decide (i = j) := by
  show PyData.eqv (.int i) (.int j) = _
  unfold PyData.eqv
  first
    | rfl
    | (by_cases h : i = j <;> simp [h])
theorem eq_bl (i j : Bool) : eqD (.bl i) (.bl j) = decide (i = j) := by
  cases i <;> cases j <;> decide
theorem c_ne (i j : Int) : cmpop .NotEq (.int i) (.int j) = .ok (!decide (i = j)) := by
  show (if okD (.int i) && okD (.int j) then Rs.ok (!eqD (.int i) (.int j)) else .no) = _
  rw [ok_int, ok_int, eq_int]; rfl
theorem c_eq (i j : Int) : cmpop .Eq (.int i) (.int j) = .ok (decide (i = j)) := by
  show (if okD (.int i) && okD (.int j) then Rs.ok (eqD (.int i) (.int j)) else .no) = _
  rw [ok_int, ok_int, eq_int]; rfl
theorem c_neb (i j : Bool) : cmpop .NotEq (.bl i) (.bl j) = .ok (!decide (i = j)) := by
  show (if okD (.bl i) && okD (.bl j) then Rs.ok (!eqD (.bl i) (.bl j)) else .no) = _
  rw [ok_bl, ok_bl, eq_bl]; rfl
theorem c_eqb (i j : Bool) : cmpop .Eq (.bl i) (.bl j) = .ok (decide (i = j)) := by
  show (if okD (.bl i) && okD (.bl j) then Rs.ok (eqD (.bl i) (.bl j)) else .no) = _
  rw [ok_bl, ok_bl, eq_bl]; rfl
theorem c_lt (i j : Int) : cmpop .Lt (.int i) (.int j) = .ok (decide (i < j)) := rfl
theorem c_le (i j : Int) : cmpop .LtE (.int i) (.int j) = .ok (decide (i ≤ j)) := rfl
theorem c_gt (i j : Int) : cmpop .Gt (.int i) (.int j) = .ok (decide (j < i)) := rfl
theorem c_ge (i j : Int) : cmpop .GtE (.int i) (.int j) = .ok (decide (j ≤ i)) := rfl
theorem b_add (i j : Int) : binop .Add (.int i) (.int j) = .ok (.sh (.int (i + j))) := rfl
theorem b_sub (i j : Int) : binop .Sub (.int i) (.int j) = .ok (.sh (.int (i - j))) := rfl
theorem b_mul (i j : Int) (h : MulOk i j) : binop .Mult (.int i) (.int j) = .ok (.sh (.int (i * j))) := if_pos h
theorem b_fdiv (i j : Int) (h : j ≠ 0) (h2 : j.natAbs.log2 < 9000) : binop .FloorDiv (.int i) (.int j) = .ok (.sh (.int (fdivD i j))) := if_pos ⟨h, h2⟩
theorem b_mod (i j : Int) (h : j ≠ 0) : binop .Mod (.int i) (.int j) = .ok (.sh (.int (fmodD i j))) := if_pos h
theorem b_pow (i j : Int) (h : 0 ≤ j ∧ j ≤ 1000000 ∧ i.natAbs < 2 ^ 64) : binop .Pow (.int i) (.int j) = .ok (.sh (.int (i ^ j.toNat))) := if_pos h
theorem mul_small (i j : Int) (h : j.natAbs < 2 ^ 64) : MulOk i j := .inr (.inl h)
theorem mul_smallL (i j : Int) (h : i.natAbs < 2 ^ 64) : MulOk i j := .inl h
/-- both below 2 ^ 400000 -/
theorem mul_big (i j : Int) (h : i.natAbs.log2 < 400000) (h2 : j.natAbs.log2 < 400000) : MulOk i j := .inr (.inr (by omega))
theorem log2_le {i : Nat} {k : Nat} (h : i < 2 ^ k) (hk : 0 < k) : i.log2 < k := by
  by_cases h0 : i = 0
  · subst h0; simpa using hk
  · exact (Nat.log2_lt h0).mpr h
theorem pos_fdiv (i j : Int) (h : 0 ≤ j) : fdivD i j = i / j := by
  unfold fdivD
  rw [if_pos h]
theorem pos_fmod (i j : Int) (h : 0 ≤ j) : fmodD i j = i % j := by
  unfold fmodD
  rw [if_pos h]
/-- one call -/
theorem call_eq {P : Pg} {n f : Nat} {d : Fd} {ds : List Dv} (hd : P.fn f = some d) (hl : ds.length = d.np) : callI P (n + 1) f ds = outV (execB (clI P n) d.body (startE d (ds.map Sv.sh))) := by
  rw [callI, hd]
  exact if_pos hl
theorem fmod_gcd (a b : Int) : Int.gcd b (fmodD a b) = Int.gcd a b := by
  have e : fmodD a b = a - b * (fdivD a b) := by
    unfold fmodD fdivD
    split
    · rw [Int.emod_def]
    · rw [Int.fmod_def]
  rw [e, Int.gcd_comm a b, Int.sub_eq_add_neg, ← Int.mul_neg, Int.gcd_add_mul_left_right]
theorem fmod_lt (a b : Int) (h : b ≠ 0) : (fmodD a b).natAbs < b.natAbs := by
  unfold fmodD
  split
  · have h1 := Int.emod_nonneg a h
    have h2 := Int.emod_lt_of_pos a (show 0 < b by omega)
    omega
  · have h1 := Int.fmod_def a b
    have hb : b < 0 := by omega
    have h2 : a.fmod b = -((-a).fmod (-b)) := by
      have := Int.neg_fmod_neg a b
      omega
    have h3 := Int.fmod_nonneg_of_pos (-a) (show 0 < -b by omega)
    have h4 := Int.fmod_lt_of_pos (-a) (show 0 < -b by omega)
    omega
/-! ### loops -/
theorem while_t {c : Env → Rs Bool} {b : Env → Rt} {fz : List Nat} {n : Nat} {e e1 : Env} (hc : c (frz fz e) = .ok true) (hb : b (frz fz e) = .nx e1) : whileI c b fz (n + 1) e = whileI c b fz n e1 := by
  rw [whileI, hc]
  show (if true = true then (match b (frz fz e) with
      | .nx e1 => whileI c b fz n e1
      | .ct e1 => whileI c b fz n e1
      | .bk e1 => .nx e1
      | r => r) else Rt.nx (frz fz e)) = _
  rw [if_pos rfl, hb]
theorem while_f {c : Env → Rs Bool} {b : Env → Rt} {fz : List Nat} {n : Nat} {e : Env} (hc : c (frz fz e) = .ok false) : whileI c b fz (n + 1) e = .nx (frz fz e) := by
  rw [whileI, hc]
  rfl
theorem for_nil {tg : Tg} {b : Env → Rt} {e : Env} : forI tg b [] e = .nx e := by rw [forI]
theorem for_nx {tg : Tg} {b : Env → Rt} {d : Dv} {r : List Dv} {e e1 e2 : Env} (h1 : bindD tg d e = some e1) (h2 : b e1 = .nx e2) : forI tg b (d :: r) e = forI tg b r e2 := by
  rw [forI, h1]
  show (match b e1 with
      | .nx e2 => forI tg b r e2
      | .ct e2 => forI tg b r e2
      | .bk e2 => .nx e2
      | r => r) = _
  rw [h2]
theorem for_inv {tg : Tg} {b : Env → Rt} {I : Env → Prop} : ∀ {ds : List Dv} {e : Env}, (∀ d ∈ ds, ∀ e, I e → ∃ e1 e2, bindD tg d e = some e1 ∧ b e1 = .nx e2 ∧ I e2) → I e → ∃ e2, forI tg b ds e = .nx e2 ∧ I e2
  | [], e, _, h => ⟨e, for_nil, h⟩
  | d :: r, e, st, h => by
    obtain ⟨e1, e2, h1, h2, h3⟩ := st d List.mem_cons_self e h
    obtain ⟨e3, h4, h5⟩ := for_inv (ds := r) (fun d hd => st d (List.mem_cons_of_mem _ hd)) h3
    exact ⟨e3, by rw [for_nx h1 h2]; exact h4, h5⟩
theorem mem_rngI {a b : Int} {d : Dv} (h : d ∈ rngI a b) : ∃ i : Nat, d = .int (a + i) ∧ (i : Int) < b - a := by
  unfold rngI at h
  obtain ⟨i, h1, h2⟩ := List.mem_map.mp h
  exact ⟨i, h2.symm, by have := List.mem_range.mp h1; omega⟩
theorem atI_nat {α : Type} {xs : List α} {i : Nat} {x : α} (h : xs[i]? = some x) : L2.atI xs (i : Int) = some x := by
  have hi := (List.getElem?_eq_some_iff.mp h).1
  unfold L2.atI L2.ixN
  rw [if_pos (by omega), if_pos (by omega)]
  exact h
theorem cutL_map {α β : Type} (f : α → β) (xs : List α) (lo hi : Option Int) : cutL (xs.map f) lo hi = (cutL xs lo hi).map f := by
  unfold cutL
  rw [List.length_map, List.map_take, List.map_drop]
theorem cutL_len {α : Type} (xs : List α) (lo hi : Option Int) : (cutL xs lo hi).length ≤ xs.length := by
  unfold cutL
  rw [List.length_take, List.length_drop]
  omega
/-! ### Euclid's loop -/
theorem gcd_abs (a b : Int) : (if (a : Int) < 0 then -a else a) = (a.natAbs : Int) := by
  split <;> omega
theorem turns_big {b : Int} (h : b.natAbs < 10 ^ 150) : b.natAbs < TURNS := Nat.lt_of_lt_of_le h (by unfold TURNS; exact Nat.pow_le_pow_right (by omega) (by omega))
theorem ediv_le (a : Int) (b : Int) : (a / b).natAbs ≤ a.natAbs := Int.natAbs_ediv_le_natAbs a b
/-! ### steps of a block -/
theorem blk_nx {cl : Cl} {s : Stm} {b : Blk} {e e1 : Env} (h : execS cl s e = .nx e1) : execB cl (.cons s b) e = execB cl b e1 := by
  rw [execB, h]
  rfl
theorem blk_rt {cl : Cl} {s : Stm} {b : Blk} {e e1 : Env} {v : Sv} (h : execS cl s e = .rt v e1) : execB cl (.cons s b) e = .rt v e1 := by
  rw [execB, h]
  rfl
theorem blk_ex {cl : Cl} {s : Stm} {b : Blk} {e e1 : Env} {C : Nat} {t : Option Int} (h : execS cl s e = .ex C t e1) : execB cl (.cons s b) e = .ex C t e1 := by
  rw [execB, h]
  rfl
theorem blk_nil {cl : Cl} {e : Env} : execB cl .nil e = .nx e := by rw [execB]
theorem st_asg {cl : Cl} {fz : List Nat} {tg : Tg} {a : Ex} {e e1 : Env} {sv : Sv} (h : evalE cl a (frz fz e) = .ok sv) (h2 : bindS tg sv (frz fz e) = some e1) : execS cl (.asg fz tg a) e = .nx e1 := by
  rw [execS, h]
  show (match bindS tg sv (frz fz e) with
    | some e1 => Rt.nx e1
    | none => .no) = _
  rw [h2]
theorem st_asgX {cl : Cl} {fz : List Nat} {tg : Tg} {a : Ex} {e : Env} {C : Nat} {t : Option Int} (h : evalE cl a (frz fz e) = .ex C t) : execS cl (.asg fz tg a) e = .ex C t (frz fz e) := by
  rw [execS, h]
  rfl
theorem st_ite {cl : Cl} {fz : List Nat} {c : Ex} {a b : Blk} {e : Env} {k : Bool} (h : evalT cl c (frz fz e) = .ok k) : execS cl (.ite fz c a b) e = if k then execB cl a (frz fz e) else execB cl b (frz fz e) := by
  rw [execS, h]
  rfl
theorem st_ret {cl : Cl} {fz : List Nat} {a : Ex} {e : Env} {d : Dv} (h : evalE cl a (frz fz e) = .ok (.sh d)) : execS cl (.ret fz a) e = .rt (.sh d) (frz fz e) := by
  rw [execS, h]
  rfl
theorem st_retL {cl : Cl} {fz : List Nat} {a : Ex} {e : Env} {d : List Dv} (h : evalE cl a (frz fz e) = .ok (.l1 d)) : execS cl (.ret fz a) e = .rt (.l1 d) (frz fz e) := by
  rw [execS, h]
  rfl
theorem st_for {cl : Cl} {fz : List Nat} {tg : Tg} {s : Src} {b : Blk} {e : Env} {ds : List Dv} (h : evalS cl true s (frz fz e) = .ok ds) : execS cl (.for fz tg s b) e = forI tg (execB cl b) ds (frz fz e) := by
  rw [execS, h]
  rfl
theorem st_whl {cl : Cl} {fz : List Nat} {c : Ex} {b : Blk} {e : Env} : execS cl (.whl fz c b) e = whileI (evalT cl c) (execB cl b) fz TURNS e := by rw [execS]
theorem sl_lst {xs : List Dv} {lo hi : Option Int} : slice (.lst xs) lo hi = .ok (.l1 (cutL xs lo hi)) := rfl
theorem s_rng1 {cl : Cl} {k : Bool} {a : Ex} {e : Env} {j : Int} (h : evalE cl a e = .ok (.sh (.int j))) (hr : rOk j ∧ j.toNat ≤ LIM) : evalS cl k (.rng1 a) e = .ok (rngI 0 j) := by
  rw [evalS, h]
  exact if_pos hr
theorem ix0 (x y : Dv) : index (.tup [x, y]) (.int 0) = .ok x := rfl
theorem ix1 (x y : Dv) : index (.tup [x, y]) (.int 1) = .ok y := rfl
theorem ixl {xs : List Dv} {i : Nat} {x : Dv} (h : xs[i]? = some x) : index (.lst xs) (.int (i : Int)) = .ok x := by
  show ofO (L2.atI xs (i : Int)) = _
  rw [atI_nat h]
  rfl
/-! ### values, one by one -/
section
variable {cl : Cl} {e : Env}
theorem ev_cst {d : Dv} : evalE cl (.cst d) e = .ok (.sh d) := by rw [evalE]
theorem ev_var {i : Nat} {sv r : Sv} (h : slot e i = some sv) (h2 : sv.peek = some r) : evalE cl (.var i) e = .ok r := by
  rw [evalE, h]
  show ofO sv.peek = _
  rw [h2]
  rfl
theorem ev_bin {op : Operator} {a b : Ex} {x y r : Sv} (ha : evalE cl a e = .ok x) (hb : evalE cl b e = .ok y) (h : binop op x.toD y.toD = .ok r) : evalE cl (.bin op a b) e = .ok r := by
  rw [evalE, ha]
  show ((evalE cl b e).bind fun y => binop op x.toD y.toD) = _
  rw [hb]
  exact h
theorem ev_cmp {op : CmpOp} {a b : Ex} {x y : Sv} {k : Bool} (ha : evalE cl a e = .ok x) (hb : evalE cl b e = .ok y) (h : cmpop op x.toD y.toD = .ok k) : evalE cl (.cmp op a b) e = .ok (.sh (.bl k)) := by
  rw [evalE, ha]
  show ((evalE cl b e).bind fun y => (cmpop op x.toD y.toD).bind fun k => Rs.ok (Sv.sh (.bl k))) = _
  rw [hb]
  show ((cmpop op x.toD y.toD).bind fun k => Rs.ok (Sv.sh (.bl k))) = _
  rw [h]
  rfl
theorem ev_or_t {a b : Ex} (ha : evalE cl a e = .ok (.sh (.bl true))) : evalE cl (.or a b) e = .ok (.sh (.bl true)) := by
  rw [evalE, ha]
  rfl
theorem ev_or_f {a b : Ex} {k : Bool} (ha : evalE cl a e = .ok (.sh (.bl false))) (hb : evalE cl b e = .ok (.sh (.bl k))) : evalE cl (.or a b) e = .ok (.sh (.bl k)) := by
  rw [evalE, ha]
  show ((evalE cl b e).bind fun y => match y.toD with
      | .bl k => Rs.ok (Sv.sh (.bl k))
      | _ => .no) = _
  rw [hb]
  rfl
theorem ev_and_f {a b : Ex} (ha : evalE cl a e = .ok (.sh (.bl false))) : evalE cl (.and a b) e = .ok (.sh (.bl false)) := by
  rw [evalE, ha]
  rfl
theorem ev_and_t {a b : Ex} {k : Bool} (ha : evalE cl a e = .ok (.sh (.bl true))) (hb : evalE cl b e = .ok (.sh (.bl k))) : evalE cl (.and a b) e = .ok (.sh (.bl k)) := by
  rw [evalE, ha]
  show ((evalE cl b e).bind fun y => match y.toD with
      | .bl k => Rs.ok (Sv.sh (.bl k))
      | _ => .no) = _
  rw [hb]
  rfl
theorem ev_not {a : Ex} {k : Bool} (ha : evalE cl a e = .ok (.sh (.bl k))) : evalE cl (.not a) e = .ok (.sh (.bl (!k))) := by
  rw [evalE, ha]
  rfl
theorem ev_t {a : Ex} {k : Bool} (ha : evalE cl a e = .ok (.sh (.bl k))) : evalT cl a e = .ok k := by
  unfold evalT
  rw [ha]
  rfl
theorem ev_idx {a i : Ex} {x y : Sv} {d : Dv} (ha : evalE cl a e = .ok x) (hi : evalE cl i e = .ok y) (h : index x.toD y.toD = .ok d) : evalE cl (.idx a i) e = .ok (.sh d) := by
  rw [evalE, ha]
  show ((evalE cl i e).bind fun y => (index x.toD y.toD).bind fun d => Rs.ok (Sv.sh d)) = _
  rw [hi]
  show ((index x.toD y.toD).bind fun d => Rs.ok (Sv.sh d)) = _
  rw [h]
  rfl
theorem ev_fld {a : Ex} {f : Nat} {x : Sv} {d : Dv} (ha : evalE cl a e = .ok x) (h : field x.toD f = .ok d) : evalE cl (.fld a f) e = .ok (.sh d) := by
  rw [evalE, ha]
  show ((field x.toD f).bind fun d => Rs.ok (Sv.sh d)) = _
  rw [h]
  rfl
theorem ev_isty {a : Ex} {T : Ty} {x : Sv} {k : Bool} (ha : evalE cl a e = .ok x) (h : tyIs T x.toD = .ok k) : evalE cl (.isty a T) e = .ok (.sh (.bl k)) := by
  rw [evalE, ha]
  show ((tyIs T x.toD).bind fun k => Rs.ok (Sv.sh (.bl k))) = _
  rw [h]
  rfl
theorem es_nil : evalEs cl .nil e = .ok [] := by rw [evalEs]
theorem es_cons {a : Ex} {r : Exs} {x : Sv} {d : Dv} {ds : List Dv} (ha : evalE cl a e = .ok x) (hs : x.share = some d) (hr : evalEs cl r e = .ok ds) : evalEs cl (.cons a r) e = .ok (d :: ds) := by
  rw [evalEs, ha]
  show ((ofO x.share).bind fun d => (evalEs cl r e).bind fun ds => Rs.ok (d :: ds)) = _
  rw [hs]
  show ((evalEs cl r e).bind fun ds => Rs.ok (d :: ds)) = _
  rw [hr]
  rfl
theorem bs_nil : evalBs cl .nil e = .ok [] := by rw [evalBs]
theorem bs_cons {a : Ex} {r : Exs} {x : Sv} {ds : List Dv} (ha : evalE cl a e = .ok x) (hr : evalBs cl r e = .ok ds) : evalBs cl (.cons a r) e = .ok (x.toD :: ds) := by
  rw [evalBs, ha]
  show ((evalBs cl r e).bind fun ds => Rs.ok (x.toD :: ds)) = _
  rw [hr]
  rfl
theorem ev_tup {es : Exs} {ds : List Dv} (h : evalEs cl es e = .ok ds) : evalE cl (.tup es) e = .ok (.sh (.tup ds)) := by
  rw [evalE, h]
  rfl
theorem ev_lst {es : Exs} {ds : List Dv} (h : evalEs cl es e = .ok ds) : evalE cl (.lst es) e = .ok (.l1 ds) := by
  rw [evalE, h]
  rfl
theorem ev_call {f : Nat} {es : Exs} {ds : List Dv} {r : Rs Sv} (h : evalEs cl es e = .ok ds) (h2 : cl.call f ds = r) : evalE cl (.call f es) e = r := by
  rw [evalE, h]
  exact h2
theorem ev_bc {id : Bi} {es : Exs} {ds : List Dv} {r : Sv} (h : evalBs cl es e = .ok ds) (h2 : bcall id ds = .ok r) : evalE cl (.bc id es) e = .ok r := by
  rw [evalE, h]
  exact h2
theorem ev_bc1 {id : Bi} {a : Ex} {x r : Sv} (ha : evalE cl a e = .ok x) (h : bcall id [x.toD] = .ok r) : evalE cl (.bc id (.cons a .nil)) e = .ok r := ev_bc (bs_cons ha bs_nil) h
end
end Dg

/-! Plain steps by tactics. -/
namespace Dg
open PySem
/-! ### places in a block -/
def Blk.at : Blk → Nat → Stm
  | .nil, _ => .pass
  | .cons s _, 0 => s
  | .cons _ b, n + 1 => b.at n
def Stm.body : Stm → Blk
  | .for _ _ _ b => b
  | .whl _ _ b => b
  | .ite _ _ a _ => a
  | .try_ b _ _ _ => b
  | _ => .nil
def Stm.els : Stm → Blk
  | .ite _ _ _ b => b
  | _ => .nil
/-! ### statements, one after the other -/
section
variable {cl : Cl} {e : Env} {b : Blk} {R : Rt}
theorem nx_asg {fz : List Nat} {tg : Tg} {a : Ex} {sv : Sv} {e1 : Env} (h : evalE cl a (frz fz e) = .ok sv) (h2 : bindS tg sv (frz fz e) = some e1) (h3 : execB cl b e1 = R) : execB cl (.cons (.asg fz tg a) b) e = R := (blk_nx (st_asg h h2)).trans h3
theorem nx_par {fz : List Nat} {i j : Nat} {u v : Ex} {x y : Dv} (h : evalEs cl (.cons u (.cons v .nil)) (frz fz e) = .ok [x, y]) (h3 : execB cl b (((frz fz e).set i (some (.sh x))).set j (some (.sh y))) = R) : execB cl (.cons (.par fz i j u v) b) e = R := by
  refine (blk_nx ?_).trans h3
  rw [execS, h]
  rfl
theorem nx_aug {fz : List Nat} {i : Nat} {a : Ex} {x y : Int} (h : slot (frz fz e) i = some (.sh (.int x))) (h2 : evalE cl a (frz fz e) = .ok (.sh (.int y))) (h3 : execB cl b ((frz fz e).set i (some (.sh (.int (x + y))))) = R) : execB cl (.cons (.aug fz i a) b) e = R := by
  refine (blk_nx ?_).trans h3
  rw [execS, h]
  show (evalE cl a (frz fz e)).inE (frz fz e) _ = _
  rw [h2]
  rfl
theorem st_mut {fz : List Nat} {op : Mop} {i : Nat} {es : Exs} {xs ys ds : List Dv} (h : slot (frz fz e) i = some (.l1 xs)) (h2 : evalEs cl es (frz fz e) = .ok ds) (h3 : mutate op xs ds = .ok ys) : execS cl (.mut fz op i es) e = .nx ((frz fz e).set i (some (.l1 ys))) := by
  rw [execS, h]
  show ((evalEs cl es (frz fz e)).inE (frz fz e) fun ds => match mutate op xs ds with
      | .ok ys => Rt.nx ((frz fz e).set i (some (.l1 ys)))
      | _ => .no) = _
  rw [h2]
  show (match mutate op xs ds with
      | .ok ys => Rt.nx ((frz fz e).set i (some (.l1 ys)))
      | _ => .no) = _
  rw [h3]
theorem nx_mut {fz : List Nat} {op : Mop} {i : Nat} {es : Exs} {xs ys ds : List Dv} (h : slot (frz fz e) i = some (.l1 xs)) (h2 : evalEs cl es (frz fz e) = .ok ds) (h3 : mutate op xs ds = .ok ys) (h4 : execB cl b ((frz fz e).set i (some (.l1 ys))) = R) : execB cl (.cons (.mut fz op i es) b) e = R := (blk_nx (st_mut h h2 h3)).trans h4
theorem nx_ext {fz : List Nat} {i : Nat} {a : Ex} {xs ys : List Dv} (h : slot (frz fz e) i = some (.l1 xs)) (h2 : evalE cl a (frz fz e) = .ok (.l1 ys)) (hl : xs.length + ys.length ≤ LIM) (h4 : execB cl b ((frz fz e).set i (some (.l1 (xs ++ ys)))) = R) : execB cl (.cons (.ext fz i a) b) e = R := by
  refine (blk_nx ?_).trans h4
  rw [execS, h]
  show (evalE cl a (frz fz e)).inE (frz fz e) _ = _
  rw [h2]
  exact if_pos hl
theorem nx_expr {fz : List Nat} {a : Ex} {sv : Sv} (h : evalE cl a (frz fz e) = .ok sv) (h2 : execB cl b (frz fz e) = R) : execB cl (.cons (.expr fz a) b) e = R := by
  refine (blk_nx ?_).trans h2
  rw [execS, h]
  rfl
theorem nx_setf {fz : List Nat} {f : Nat} {a : Ex} {sv : Sv} {d : Dv} {C : Nat} {fs : List (Nat × Dv)} (h : evalE cl a (frz fz e) = .ok sv) (h2 : sv.share = some d) (h3 : slot (frz fz e) 0 = some (.o1 C fs)) (hl : fs.length < 999) (h4 : execB cl b ((frz fz e).set 0 (some (.o1 C (putD f d fs)))) = R) : execB cl (.cons (.setf fz f a) b) e = R := by
  refine (blk_nx ?_).trans h4
  rw [execS, h]
  show (match sv.share, slot (frz fz e) 0 with
    | some d, some (.o1 C fs) => if fs.length < 999 then Rt.nx ((frz fz e).set 0 (some (.o1 C (putD f d fs)))) else .no
    | _, _ => .no) = _
  rw [h2, h3]
  exact if_pos hl
/-- an if, its truth known; the branch runs on, or ends -/
theorem nx_iteT {fz : List Nat} {c : Ex} {x y : Blk} {k : Bool} (h : evalE cl c (frz fz e) = .ok (.sh (.bl k))) (hk : k = true) (h2 : (execB cl x (frz fz e)).then (fun e1 => execB cl b e1) = R) : execB cl (.cons (.ite fz c x y) b) e = R := by
  subst hk
  rw [execB, st_ite (ev_t h), if_pos rfl]
  exact h2
theorem nx_iteF {fz : List Nat} {c : Ex} {x y : Blk} {k : Bool} (h : evalE cl c (frz fz e) = .ok (.sh (.bl k))) (hk : k = false) (h2 : (execB cl y (frz fz e)).then (fun e1 => execB cl b e1) = R) : execB cl (.cons (.ite fz c x y) b) e = R := by
  subst hk
  rw [execB, st_ite (ev_t h), if_neg Bool.false_ne_true]
  exact h2
/-- an if whose branches both run on -/
theorem nx_ite {fz : List Nat} {c : Ex} {x y : Blk} {k : Bool} {e1 : Env} (h : evalE cl c (frz fz e) = .ok (.sh (.bl k))) (ht : k = true → execB cl x (frz fz e) = .nx e1) (hf : k = false → execB cl y (frz fz e) = .nx e1) (h2 : execB cl b e1 = R) : execB cl (.cons (.ite fz c x y) b) e = R := by
  cases k with
  | true => exact nx_iteT h rfl (by rw [ht rfl]; exact h2)
  | false => exact nx_iteF h rfl (by rw [hf rfl]; exact h2)
theorem then_nx {f : Env → Rt} {e1 : Env} {r : Rt} (h : r = .nx e1) (h2 : f e1 = R) : r.then f = R := by rw [h]; exact h2
theorem then_rt {f : Env → Rt} {e1 : Env} {v : Sv} {r : Rt} (h : r = .rt v e1) (h2 : Rt.rt v e1 = R) : r.then f = R := by rw [h]; exact h2
theorem then_ex {f : Env → Rt} {e1 : Env} {C : Nat} {t : Option Int} {r : Rt} (h : r = .ex C t e1) (h2 : Rt.ex C t e1 = R) : r.then f = R := by rw [h]; exact h2
theorem then_nil {f : Env → Rt} (h2 : f e = R) : (execB cl .nil e).then f = R := by rw [blk_nil]; exact h2
theorem rt_ret {fz : List Nat} {a : Ex} {d : Dv} (h : evalE cl a (frz fz e) = .ok (.sh d)) : execB cl (.cons (.ret fz a) b) e = .rt (.sh d) (frz fz e) := blk_rt (st_ret h)
theorem rt_retL {fz : List Nat} {a : Ex} {d : List Dv} (h : evalE cl a (frz fz e) = .ok (.l1 d)) : execB cl (.cons (.ret fz a) b) e = .rt (.l1 d) (frz fz e) := blk_rt (st_retL h)
theorem rt_retv {i : Nat} {sv : Sv} (h : slot e i = some sv) : execB cl (.cons (.retv i) b) e = .rt sv (e.set i none) := blk_rt (by rw [execS, h])
theorem rt_retN : execB cl (.cons .retN b) e = .rt (.sh .non) e := blk_rt (by rw [execS])
theorem nx_pass (h : execB cl b e = R) : execB cl (.cons .pass b) e = R := (blk_nx (by rw [execS])).trans h
theorem nx_for {fz : List Nat} {tg : Tg} {s : Src} {x : Blk} {ds : List Dv} {e1 : Env} (h : evalS cl true s (frz fz e) = .ok ds) (h2 : forI tg (execB cl x) ds (frz fz e) = .nx e1) (h3 : execB cl b e1 = R) : execB cl (.cons (.for fz tg s x) b) e = R := (blk_nx ((st_for h).trans h2)).trans h3
theorem nx_forR {fz : List Nat} {tg : Tg} {s : Src} {x : Blk} {ds : List Dv} {e1 : Env} {v : Sv} (h : evalS cl true s (frz fz e) = .ok ds) (h2 : forI tg (execB cl x) ds (frz fz e) = .rt v e1) (h3 : Rt.rt v e1 = R) : execB cl (.cons (.for fz tg s x) b) e = R := (blk_rt ((st_for h).trans h2)).trans h3
theorem ex_rai {C : Nat} {k : Bool} (h : cl.sub C C = some k) : execB cl (.cons (.rai C) b) e = .ex C none e := blk_ex (by rw [execS, h])
end
theorem call_ret {P : Pg} {n f : Nat} {d : Fd} {ds : List Dv} {v : Dv} (hd : P.fn f = some d) (hl : ds.length = d.np) (h : ∃ e1, execB (clI P n) d.body (startE d (ds.map Sv.sh)) = .rt (.sh v) e1) : callI P (n + 1) f ds = .ok (.sh v) := by obtain ⟨e1, h⟩ := h; rw [call_eq hd hl, h]; rfl
theorem call_retL {P : Pg} {n f : Nat} {d : Fd} {ds v : List Dv} (hd : P.fn f = some d) (hl : ds.length = d.np) (h : ∃ e1, execB (clI P n) d.body (startE d (ds.map Sv.sh)) = .rt (.l1 v) e1) : callI P (n + 1) f ds = .ok (.l1 v) := by obtain ⟨e1, h⟩ := h; rw [call_eq hd hl, h]; rfl
theorem call_end {P : Pg} {n f : Nat} {d : Fd} {ds : List Dv} (hd : P.fn f = some d) (hl : ds.length = d.np) (h : ∃ e1, execB (clI P n) d.body (startE d (ds.map Sv.sh)) = .nx e1) : callI P (n + 1) f ds = .ok (.sh .non) := by obtain ⟨e1, h⟩ := h; rw [call_eq hd hl, h]; rfl
theorem call_ex {P : Pg} {n f C : Nat} {t : Option Int} {d : Fd} {ds : List Dv} (hd : P.fn f = some d) (hl : ds.length = d.np) (h : ∃ e1, execB (clI P n) d.body (startE d (ds.map Sv.sh)) = .ex C t e1) : callI P (n + 1) f ds = .ex C t := by obtain ⟨e1, h⟩ := h; rw [call_eq hd hl, h]; rfl
/-! ### values -/
section
variable {cl : Cl} {e : Env}
theorem ev_cstE {d : Dv} {r : Sv} (h : Sv.sh d = r) : evalE cl (.cst d) e = .ok r := by rw [evalE, h]
theorem ev_orD {a b : Ex} {x y : Bool} (ha : evalE cl a e = .ok (.sh (.bl x))) (hb : x = false → evalE cl b e = .ok (.sh (.bl y))) : evalE cl (.or a b) e = .ok (.sh (.bl (x || y))) := by
  cases x with
  | true => exact ev_or_t ha
  | false => exact ev_or_f ha (hb rfl)
theorem ev_andD {a b : Ex} {x y : Bool} (ha : evalE cl a e = .ok (.sh (.bl x))) (hb : x = true → evalE cl b e = .ok (.sh (.bl y))) : evalE cl (.and a b) e = .ok (.sh (.bl (x && y))) := by
  cases x with
  | true => exact ev_and_t ha (hb rfl)
  | false => exact ev_and_f ha
theorem ev_cmp2 {op op2 : CmpOp} {a b c : Ex} {x y z : Sv} {k k2 : Bool} (ha : evalE cl a e = .ok x) (hb : evalE cl b e = .ok y) (hk : cmpop op x.toD y.toD = .ok k) (hc : k = true → evalE cl c e = .ok z ∧ cmpop op2 y.toD z.toD = .ok k2) : evalE cl (.cmp2 op op2 a b c) e = .ok (.sh (.bl (k && k2))) := by
  rw [evalE, ha]
  show ((evalE cl b e).bind fun y => (cmpop op x.toD y.toD).bind fun k =>
    if k then (evalE cl c e).bind fun z => (cmpop op2 y.toD z.toD).bind fun k2 => Rs.ok (Sv.sh (.bl k2)) else .ok (.sh (.bl false))) = _
  rw [hb]
  show ((cmpop op x.toD y.toD).bind fun k =>
    if k then (evalE cl c e).bind fun z => (cmpop op2 y.toD z.toD).bind fun k2 => Rs.ok (Sv.sh (.bl k2)) else .ok (.sh (.bl false))) = _
  rw [hk]
  cases k with
  | false => rfl
  | true =>
    obtain ⟨h1, h2⟩ := hc rfl
    show ((evalE cl c e).bind fun z => (cmpop op2 y.toD z.toD).bind fun k2 => Rs.ok (Sv.sh (.bl k2))) = _
    rw [h1]
    show ((cmpop op2 y.toD z.toD).bind fun k2 => Rs.ok (Sv.sh (.bl k2))) = _
    rw [h2]
    rfl
theorem b_modp (i j : Int) (h : 0 < j) : binop .Mod (.int i) (.int j) = .ok (.sh (.int (i % j))) := by rw [b_mod i j (by omega), pos_fmod i j (by omega)]
theorem b_fdivp (i j : Int) (h : 0 < j) (h2 : j.natAbs.log2 < 9000) : binop .FloorDiv (.int i) (.int j) = .ok (.sh (.int (i / j))) := by rw [b_fdiv i j (by omega) h2, pos_fdiv i j (by omega)]
theorem b_addl {xs ys : List Dv} (h : xs.length + ys.length ≤ LIM) : binop .Add (.lst xs) (.lst ys) = .ok (.l1 (xs ++ ys)) := if_pos h
theorem b_addt {xs ys : List Dv} (h : xs.length + ys.length ≤ LIM) : binop .Add (.tup xs) (.tup ys) = .ok (.sh (.tup (xs ++ ys))) := if_pos h
theorem b_shr (i j : Int) (h : 0 ≤ j) : binop .RShift (.int i) (.int j) = .ok (.sh (.int (i / 2 ^ j.toNat))) := if_pos h
theorem mut_app {xs : List Dv} {d : Dv} (h : xs.length < LIM) : mutate .append xs [d] = .ok (xs ++ [d]) := if_pos h
theorem ixt {xs : List Dv} {i : Nat} {x : Dv} (h : xs[i]? = some x) : index (.tup xs) (.int (i : Int)) = .ok x := by
  show ofO (L2.atI xs (i : Int)) = _
  rw [atI_nat h]
  rfl
theorem ev_neg {a : Ex} {i : Int} (h : evalE cl a e = .ok (.sh (.int i))) : evalE cl (.neg a) e = .ok (.sh (.int (-i))) := by
  rw [evalE, h]
  rfl
theorem eo_som {a : Ex} {x : Sv} {i : Int} (ha : evalE cl a e = .ok x) (hx : x.toD = .int i) : evalO cl (.som a) e = .ok (some i) := by
  rw [evalO, ha]
  show (match x.toD with
    | .int i => Rs.ok (some i)
    | _ => .no) = _
  rw [hx]
theorem eo_non : evalO cl .non e = .ok none := by rw [evalO]
theorem ev_slc {a : Ex} {lo hi : Ox} {x : Sv} {l h : Option Int} {r : Sv} (ha : evalE cl a e = .ok x) (hl : evalO cl lo e = .ok l) (hh : evalO cl hi e = .ok h) (hs : slice x.toD l h = .ok r) : evalE cl (.slc a lo hi) e = .ok r := by
  rw [evalE, ha]
  show ((evalO cl lo e).bind fun l => (evalO cl hi e).bind fun h => slice x.toD l h) = _
  rw [hl]
  show ((evalO cl hi e).bind fun h => slice x.toD l h) = _
  rw [hh]
  exact hs
theorem ev_callI {P : Pg} {n f : Nat} {es : Exs} {ds : List Dv} {r : Sv} (h : evalEs (clI P n) es e = .ok ds) (h2 : callI P n f ds = .ok r) : evalE (clI P n) (.call f es) e = .ok r := ev_call h h2
theorem ev_callB {P : Pg} {n f : Nat} {es : Exs} {ds : List Dv} {r r2 : Sv} (h : evalBs (clI P n) es e = .ok ds) (h2 : callI P n f ds = .ok r) (h3 : scal r = .ok r2) : evalE (clI P n) (.callB f es) e = .ok r2 := by
  rw [evalE, h]
  show ((clI P n).call f ds).bind scal = _
  show (callI P n f ds).bind scal = _
  rw [h2]
  exact h3
theorem ev_make {P : Pg} {n C : Nat} {es : Exs} {ds : List Dv} {d : Dv} (h : evalEs (clI P n) es e = .ok ds) (h2 : makeI P n C ds = .ok d) : evalE (clI P n) (.make C es) e = .ok (.sh d) := by
  rw [evalE, h]
  show ((clI P n).make C ds).bind (fun d => Rs.ok (Sv.sh d)) = _
  show (makeI P n C ds).bind (fun d => Rs.ok (Sv.sh d)) = _
  rw [h2]
  rfl
theorem ev_meth {P : Pg} {n C f : Nat} {a : Ex} {es : Exs} {fs : List (Nat × Dv)} {ds : List Dv} {r : Sv} (ha : evalE (clI P n) a e = .ok (.sh (.obj C fs))) (h : evalEs (clI P n) es e = .ok ds) (h2 : callI P n f (.obj C fs :: ds) = .ok r) : evalE (clI P n) (.meth C f a es) e = .ok r := by
  rw [evalE, ha]
  show (if C = C then (evalEs (clI P n) es e).bind fun ds => (clI P n).call f (.obj C fs :: ds) else .no) = _
  rw [if_pos rfl, h]
  exact h2
theorem s_seq {b : Bool} {a : Ex} {sv : Sv} {d : Dv} {ds : List Dv} (h : evalE cl a e = .ok sv) (h2 : viewS b sv = some d) (h3 : d.items = some ds) : evalS cl b (.seq a) e = .ok ds := by
  rw [evalS, h]
  show ((ofO (viewS b sv)).bind fun d => ofO d.items) = _
  rw [h2]
  show ofO d.items = _
  rw [h3]
  rfl
theorem s_revS {b : Bool} {a : Ex} {sv : Sv} {d : Dv} {ds : List Dv} (h : evalE cl a e = .ok sv) (h2 : viewS b sv = some d) (h3 : d.items = some ds) : evalS cl b (.rev a) e = .ok ds.reverse := by
  rw [evalS, h]
  show ((ofO (viewS b sv)).bind fun d => (ofO d.items).bind fun ds => Rs.ok ds.reverse) = _
  rw [h2]
  show ((ofO d.items).bind fun ds => Rs.ok ds.reverse) = _
  rw [h3]
  rfl
theorem s_rngN {k : Bool} {a : Ex} {n : Nat} (h : evalE cl a e = .ok (.sh (.int (n : Int)))) (hn : n ≤ LIM) : evalS cl k (.rng1 a) e = .ok (rngI 0 (n : Int)) := s_rng1 h (by unfold rOk LIM at *; omega)
theorem ev_comp {own : List Nat} {tg : Tg} {src : Src} {cond : Ox} {elt : Ex} {ds xs : List Dv} (hs : evalS cl false src e = .ok ds) (hc : compI (eltI cl own tg cond elt e) ds = .ok xs) : evalE cl (.comp own tg src cond elt) e = .ok (.l1 xs) := by
  rw [evalE, hs]
  show (match compI (eltI cl own tg cond elt e) ds with
      | .ok xs => Rs.ok (Sv.l1 xs)
      | _ => .no) = _
  rw [hc]
theorem ec_non : evalC cl .non e = .ok true := by rw [evalC]
theorem ec_som {a : Ex} {k : Bool} (h : evalE cl a e = .ok (.sh (.bl k))) : evalC cl (.som a) e = .ok k := by
  rw [evalC, h]
  rfl
/-- one element of a comprehension: taken, left out -/
theorem el_t {own : List Nat} {tg : Tg} {cond : Ox} {elt : Ex} {e1 : Env} {d y : Dv} {x : Sv} (hb : bindD tg d (wipeE own e) = some e1) (hc : evalC cl cond e1 = .ok true) (hx : evalE cl elt e1 = .ok x) (hs : x.share = some y) : eltI cl own tg cond elt e d = .ok (some y) := by
  unfold eltI
  rw [hb]
  show (match evalC cl cond e1 with
    | .ok true => (evalE cl elt e1).bind fun x => (ofO x.share).bind fun y => Rs.ok (some y)
    | .ok false => .ok none
    | _ => .no) = _
  rw [hc]
  show ((evalE cl elt e1).bind fun x => (ofO x.share).bind fun y => Rs.ok (some y)) = _
  rw [hx]
  show ((ofO x.share).bind fun y => Rs.ok (some y)) = _
  rw [hs]
  rfl
theorem el_f {own : List Nat} {tg : Tg} {cond : Ox} {elt : Ex} {e1 : Env} {d : Dv} (hb : bindD tg d (wipeE own e) = some e1) (hc : evalC cl cond e1 = .ok false) : eltI cl own tg cond elt e d = .ok none := by
  unfold eltI
  rw [hb]
  show (match evalC cl cond e1 with
    | .ok true => (evalE cl elt e1).bind fun x => (ofO x.share).bind fun y => Rs.ok (some y)
    | .ok false => .ok none
    | _ => .no) = _
  rw [hc]
/-- a comprehension over things that stand for α: what is taken, as filter and map -/
theorem comp_map {α : Type} {f : Dv → Rs (Option Dv)} (D : α → Dv) (g : α → Option Dv) : ∀ (xs : List α), (∀ a ∈ xs, f (D a) = .ok (g a)) → compI f (xs.map D) = .ok (xs.filterMap g)
  | [], _ => by rw [List.map_nil, compI]; rfl
  | a :: r, h => by
    rw [List.map_cons, compI, h a List.mem_cons_self]
    show ((compI f (r.map D)).bind fun ds => Rs.ok (match g a with
      | some x => x :: ds
      | none => ds)) = _
    rw [comp_map D g r fun a ha => h a (List.mem_cons_of_mem _ ha)]
    show Rs.ok (match g a with
      | some x => x :: r.filterMap g
      | none => r.filterMap g) = _
    rw [List.filterMap_cons]
    cases g a <;> rfl
theorem fm_some {α β : Type} (g : α → β) (l : List α) : l.filterMap (fun a => some (g a)) = l.map g := by
  induction l with
  | nil => rfl
  | cons a r ih => rw [List.filterMap_cons, List.map_cons, ih]
theorem comp_all {α : Type} {f : Dv → Rs (Option Dv)} (D : α → Dv) (g : α → Dv) (xs : List α) (h : ∀ a ∈ xs, f (D a) = .ok (some (g a))) : compI f (xs.map D) = .ok (xs.map g) := by
  rw [comp_map D (fun a => some (g a)) xs h, fm_some]
/-- those that p takes -/
theorem comp_flt {α : Type} {f : Dv → Rs (Option Dv)} (D : α → Dv) (p : α → Bool) (g : α → Dv) (xs : List α) (h : ∀ a ∈ xs, f (D a) = .ok (if p a then some (g a) else none)) : compI f (xs.map D) = .ok ((xs.filter p).map g) := by
  rw [comp_map D _ xs h]
  congr 1
  clear h
  induction xs with
  | nil => rfl
  | cons a r ih =>
    rw [List.filterMap_cons, List.filter_cons]
    cases hp : p a with
    | true => simp [ih]
    | false => simp [ih]
end
/-! ### loops over things that stand for α -/
theorem for_consR {tg : Tg} {b : Env → Rt} {d : Dv} {r : List Dv} {e e1 e2 : Env} {R : Rt} (h1 : bindD tg d e = some e1) (h2 : b e1 = .nx e2) (h3 : forI tg b r e2 = R) : forI tg b (d :: r) e = R := (for_nx h1 h2).trans h3
theorem for_fold {α β J : Type} {tg : Tg} {b : Env → Rt} (D : α → Dv) (E : β → J → Env) (f : β → α → β) : ∀ (xs : List α) (s : β) (j : J), (∀ (l : List α) (a : α) (r : List α) (j : J), xs = l ++ a :: r → ∃ e1 j', bindD tg (D a) (E (l.foldl f s) j) = some e1 ∧ b e1 = .nx (E (f (l.foldl f s) a) j')) →
    ∃ j', forI tg b (xs.map D) (E s j) = .nx (E (xs.foldl f s) j')
  | [], s, j, _ => ⟨j, for_nil⟩
  | a :: r, s, j, h => by
    obtain ⟨e1, j1, h1, h2⟩ := h [] a r j rfl
    obtain ⟨j2, h3⟩ := for_fold D E f r (f s a) j1 fun l x t j e => h (a :: l) x t j (by rw [e]; rfl)
    exact ⟨j2, (for_nx h1 h2).trans h3⟩
/-- a loop that goes on for good elements, and hands back v at the first bad one -/
theorem for_search {α J : Type} {tg : Tg} {b : Env → Rt} (D : α → Dv) (E : J → Env) (p : α → Bool) (v : Sv) : ∀ (xs : List α) (j : J), (∀ (a : α) (j : J), a ∈ xs → ∃ e1, bindD tg (D a) (E j) = some e1 ∧ ((p a = true ∧ ∃ j', b e1 = .nx (E j')) ∨ (p a = false ∧ ∃ e2, b e1 = .rt v e2))) →
    (xs.all p = true ∧ ∃ j', forI tg b (xs.map D) (E j) = .nx (E j')) ∨ (xs.all p = false ∧ ∃ e2, forI tg b (xs.map D) (E j) = .rt v e2)
  | [], j, _ => .inl ⟨rfl, j, for_nil⟩
  | a :: r, j, h => by
    obtain ⟨e1, h1, h2⟩ := h a j List.mem_cons_self
    rcases h2 with ⟨hp, j1, h2⟩ | ⟨hp, e2, h2⟩
    · rcases for_search D E p v r j1 fun x j hx => h x j (List.mem_cons_of_mem _ hx) with ⟨q, j2, h3⟩ | ⟨q, e2, h3⟩
      · exact .inl ⟨by rw [List.all_cons, hp, q]; rfl, j2, (for_nx h1 h2).trans h3⟩
      · exact .inr ⟨by rw [List.all_cons, hp, q]; rfl, e2, (for_nx h1 h2).trans h3⟩
    · refine .inr ⟨by rw [List.all_cons, hp]; rfl, e2, ?_⟩
      rw [List.map_cons, forI, h1]
      show (match b e1 with
        | .nx e2 => forI tg b (r.map D) e2
        | .ct e2 => forI tg b (r.map D) e2
        | .bk e2 => .nx e2
        | r => r) = _
      rw [h2]
theorem rng_natR (n : Nat) : rngI 0 (n : Int) = (List.range n).map fun (i : Nat) => Dv.int (i : Int) := by
  unfold rngI
  rw [show ((n : Int) - 0).toNat = n by omega]
  apply List.map_congr_left
  intro i _
  rw [Int.zero_add]
end Dg

/-! Plain: drawings. -/
namespace Dg
open PySem
abbrev td (is : List Int) : Dv := .tup (is.map Dv.int)
theorem eqv_ints : ∀ a b : List Int, PyData.eqvAll (toPs (a.map Dv.int)) (toPs (b.map Dv.int)) = decide (a = b)
  | [], [] => rfl
  | [], _ :: _ => rfl
  | _ :: _, [] => rfl
  | x :: a, y :: b => by
    show (PyData.eqv (.int x) (.int y) && PyData.eqvAll (toPs (a.map Dv.int)) (toPs (b.map Dv.int))) = _
    rw [eqv_ints a b]
    have e : PyData.eqv (.int x) (.int y) = decide (x = y) := eq_int x y
    rw [e]
    by_cases h : x = y <;> by_cases h2 : a = b <;> simp [h, h2]
theorem eq_td (a b : List Int) : eqD (td a) (td b) = decide (a = b) := eqv_ints a b
theorem lay_ints : ∀ a : List Int, PyData.canLayAll0 (toPs (a.map Dv.int)) = true
  | [] => rfl
  | x :: a => by
    show (true && PyData.canLayAll0 (toPs (a.map Dv.int))) = true
    rw [lay_ints a]
    rfl
theorem lay_tds : ∀ l : List (List Int), PyData.canLayAll0 (toPs (l.map td)) = true
  | [] => rfl
  | x :: a => by
    show (PyData.canLayAll0 (toPs (x.map Dv.int)) && PyData.canLayAll0 (toPs (a.map td))) = true
    rw [lay_tds a, lay_ints x]
    rfl
theorem dep_ints : ∀ a : List Int, PyData.depthAll (toPs (a.map Dv.int)) ≤ 1
  | [] => by decide
  | x :: a => by
    have h := dep_ints a
    show max (PyData.depth (.int x)) (PyData.depthAll (toPs (a.map Dv.int))) ≤ 1
    have : PyData.depth (.int x) = 0 := rfl
    omega
theorem dep_td (a : List Int) : PyData.depth (toP (td a)) ≤ 3 := by
  have h := dep_ints a
  show PyData.depth (.tuple (toPs (a.map Dv.int))) ≤ 3
  unfold PyData.depth
  omega
theorem dep_tds : ∀ l : List (List Int), PyData.depthAll (toPs (l.map td)) ≤ 3
  | [] => by decide
  | x :: a => by
    have h := dep_tds a
    have h2 := dep_td x
    show max (PyData.depth (toP (td x))) (PyData.depthAll (toPs (a.map td))) ≤ 3
    omega
theorem ok_td (a : List Int) : okD (td a) = true := by
  have h := dep_td a
  show (PyData.canLayAll0 (toPs (a.map Dv.int)) && decide (PyData.depth (toP (td a)) ≤ 64)) = true
  rw [lay_ints a, decide_eq_true (by omega)]
  rfl
theorem ok_tds (l : List (List Int)) : okD (.lst (l.map td)) = true := by
  have h := dep_tds l
  have h2 : PyData.depth (.list (toPs (l.map td))) ≤ 64 := by
    unfold PyData.depth
    omega
  show (PyData.canLayAll0 (toPs (l.map td)) && decide (PyData.depth (.list (toPs (l.map td))) ≤ 64)) = true
  rw [lay_tds l, decide_eq_true h2]
  rfl
theorem in_tds (a : List Int) (l : List (List Int)) : cmpop .In (td a) (.lst (l.map td)) = .ok (decide (a ∈ l)) := by
  show (if okD (td a) && okD (.lst (l.map td)) then Rs.ok ((l.map td).any fun z => eqD z (td a)) else .no) = _
  rw [ok_td, ok_tds]
  show Rs.ok ((l.map td).any fun z => eqD z (td a)) = _
  congr 1
  rw [List.any_map]
  have e : ((fun z => eqD z (td a)) ∘ td) = fun z => decide (z = a) := by
    funext z
    exact eq_td z a
  rw [e]
  by_cases h : a ∈ l
  · rw [decide_eq_true h, List.any_eq_true]
    exact ⟨a, h, by simp⟩
  · rw [decide_eq_false h]
    rw [List.any_eq_false]
    intro z hz
    simp
    rintro rfl
    exact h hz
theorem alike_ints : ∀ a b : List Int, PySem.W.alikeAll (toPs (a.map Dv.int)) (toPs (b.map Dv.int)) = true
  | [], _ => by
    show PySem.W.alikeAll [] _ = true
    unfold PySem.W.alikeAll
    rfl
  | _ :: _, [] => rfl
  | x :: a, y :: b => by
    show (true && PySem.W.alikeAll (toPs (a.map Dv.int)) (toPs (b.map Dv.int))) = true
    rw [alike_ints a b]
    rfl
def Good (n : Int) (r : List Int) : Prop := ∃ a b, r = [a, b] ∧ 0 ≤ a ∧ a < b ∧ b < n
def Val (n : Int) (l : List (List Int)) : Prop := (∀ r ∈ l, Good n r) ∧ l.Nodup
theorem val_perm {n : Int} {l m : List (List Int)} (h : l.Perm m) : Val n l ↔ Val n m :=
  ⟨fun ⟨a, b⟩ => ⟨fun r hr => a r (h.mem_iff.mpr hr), h.nodup_iff.mp b⟩, fun ⟨a, b⟩ => ⟨fun r hr => a r (h.mem_iff.mp hr), h.nodup_iff.mpr b⟩⟩
theorem sort_ok {n : Int} {l : List (List Int)} (h : ∀ r ∈ l, Good n r) : sortOk (l.map td) = true := by
  unfold sortOk
  simp only [Bool.and_eq_true, Bool.or_eq_true, List.all_eq_true, List.mem_map]
  refine ⟨⟨?_, ?_⟩, .inl ?_⟩
  · rintro _ ⟨a, _, rfl⟩
    exact ok_td a
  · rintro _ ⟨a, _, rfl⟩ _ ⟨b, _, rfl⟩
    exact alike_ints a b
  · rintro _ ⟨a, ha, rfl⟩
    obtain ⟨x, y, rfl, _⟩ := h a ha
    rfl
open Classical in
/-- pairs_of's loop -/
noncomputable def runP (n : Int) : List (List Int) → List (List Int) → Option (List (List Int))
  | [], f => some f
  | r :: rs, f => if Good n r ∧ r ∉ f then runP n rs (f ++ [r]) else none
theorem run_some {n : Int} : ∀ {rs f : List (List Int)}, (∀ r ∈ rs, Good n r) → (f ++ rs).Nodup → runP n rs f = some (f ++ rs)
  | [], f, _, _ => by rw [runP, List.append_nil]
  | r :: rs, f, h, nd => by
    have h1 : r ∉ f := fun hr => by
      rw [List.nodup_append] at nd
      exact nd.2.2 r hr r List.mem_cons_self rfl
    have nd2 : ((f ++ [r]) ++ rs).Nodup := by rw [List.append_assoc]; exact nd
    rw [runP, if_pos ⟨h r List.mem_cons_self, h1⟩, run_some (fun q hq => h q (List.mem_cons_of_mem _ hq)) nd2, List.append_assoc]
    rfl
theorem run_val {n : Int} : ∀ {rs f g : List (List Int)}, f.Nodup → runP n rs f = some g → g = f ++ rs ∧ (∀ r ∈ rs, Good n r) ∧ (f ++ rs).Nodup
  | [], f, g, nd, h => by
    rw [runP] at h
    cases h
    rw [List.append_nil]
    exact ⟨rfl, (fun r hr => by cases hr), nd⟩
  | r :: rs, f, g, nd, h => by
    rw [runP] at h
    split at h
    · rename_i hc
      have nd2 : (f ++ [r]).Nodup := by
        rw [List.nodup_append]
        refine ⟨nd, by simp, fun a ha b hb e => ?_⟩
        rw [List.mem_singleton] at hb
        exact hc.2 (by rw [← hb, ← e]; exact ha)
      obtain ⟨h1, h2, h3⟩ := run_val nd2 h
      rw [List.append_assoc] at h1 h3
      exact ⟨h1, fun q hq => by
        rcases List.mem_cons.mp hq with rfl | hq
        · exact hc.1
        · exact h2 q hq, h3⟩
    · cases h
open Classical in
theorem run_eq (n : Int) (rs : List (List Int)) : runP n rs [] = if Val n rs then some rs else none := by
  by_cases h : Val n rs
  · rw [if_pos h, run_some h.1 (by simpa using h.2)]
    rfl
  · rw [if_neg h]
    cases q : runP n rs [] with
    | none => rfl
    | some g =>
      obtain ⟨_, h2, h3⟩ := run_val List.nodup_nil q
      exact absurd ⟨h2, by simpa using h3⟩ h
/-- a row of a drawing's pairs: a list or a tuple -/
def rd (r : Bool × List Int) : Dv := if r.1 then td r.2 else .lst (r.2.map Dv.int)
theorem len_rd (r : Bool × List Int) : bcall .len [rd r] = .ok (.sh (.int r.2.length)) := by
  obtain ⟨b, is⟩ := r
  cases b
  · show Rs.ok (Sv.sh (Dv.int (is.map Dv.int).length)) = _
    rw [List.length_map]
  · show Rs.ok (Sv.sh (Dv.int (is.map Dv.int).length)) = _
    rw [List.length_map]
theorem tup_rd (r : Bool × List Int) : bcall .tuple [rd r] = .ok (.sh (td r.2)) := by
  obtain ⟨b, is⟩ := r
  cases b <;> rfl
theorem ix_rd0 (b : Bool) (x y : Int) : index (rd (b, [x, y])) (.int 0) = .ok (.int x) := by cases b <;> rfl
theorem ix_rd1 (b : Bool) (x y : Int) : index (rd (b, [x, y])) (.int 1) = .ok (.int y) := by cases b <;> rfl
abbrev condP : Ex := (.or (.cmp .NotEq (.bc .len (.cons (.var 3) .nil)) (.cst (.int 2))) (.or (.cmp .Lt (.idx (.var 3) (.cst (.int 0))) (.cst (.int 0))) (.or (.cmp .LtE (.idx (.var 3) (.cst (.int 1))) (.idx (.var 3) (.cst (.int 0)))) (.or (.cmp .GtE (.idx (.var 3) (.cst (.int 1))) (.var 0)) (.cmp .In (.bc .tuple (.cons (.var 3) .nil)) (.var 2))))))
open Classical in
theorem cond_ok (cl : Cl) (n : Int) (r : Bool × List Int) (f : List (List Int)) (o1 : Option Sv) : evalT cl condP [some (.sh (.int n)), o1, some (.l1 (f.map td)), some (.sh (rd r))] = .ok (!decide (Good n r.2 ∧ r.2 ∉ f)) := by
  obtain ⟨b, is⟩ := r
  have hl := len_rd (b, is)
  have ht := tup_rd (b, is)
  have hin := in_tds is f
  by_cases h2 : is.length = 2
  · obtain ⟨x, y, rfl⟩ : ∃ x y, is = [x, y] := by
      match is, h2 with
      | [x, y], _ => exact ⟨x, y, rfl⟩
    have i0 := ix_rd0 b x y
    have i1 := ix_rd1 b x y
    have g : Good n [x, y] ↔ (0 ≤ x ∧ x < y ∧ y < n) := ⟨fun ⟨a, c, e, h⟩ => by cases e; exact h, fun h => ⟨x, y, rfl, h⟩⟩
    have hd : (!decide (Good n [x, y] ∧ [x, y] ∉ f)) = (decide (x < 0) || (decide (y ≤ x) || (decide (n ≤ y) || decide ([x, y] ∈ f)))) := by
      by_cases a1 : x < 0
      · have : ¬ (Good n [x, y] ∧ [x, y] ∉ f) := fun z => by have := g.mp z.1; omega
        rw [decide_eq_false this, decide_eq_true a1]; rfl
      · by_cases a2 : y ≤ x
        · have : ¬ (Good n [x, y] ∧ [x, y] ∉ f) := fun z => by have := g.mp z.1; omega
          rw [decide_eq_false this, decide_eq_false a1, decide_eq_true a2]; rfl
        · by_cases a3 : n ≤ y
          · have : ¬ (Good n [x, y] ∧ [x, y] ∉ f) := fun z => by have := g.mp z.1; omega
            rw [decide_eq_false this, decide_eq_false a1, decide_eq_false a2, decide_eq_true a3]; rfl
          · by_cases a4 : [x, y] ∈ f
            · have : ¬ (Good n [x, y] ∧ [x, y] ∉ f) := fun z => z.2 a4
              rw [decide_eq_false this, decide_eq_false a1, decide_eq_false a2, decide_eq_false a3, decide_eq_true a4]; rfl
            · rw [decide_eq_true ⟨g.mpr ⟨by omega, by omega, by omega⟩, a4⟩, decide_eq_false a1, decide_eq_false a2, decide_eq_false a3, decide_eq_false a4]; rfl
    show _ = Rs.ok (!decide (Good n [x, y] ∧ [x, y] ∉ f))
    rw [hd]
    by_cases a1 : x < 0
    · simp [condP, evalT, evalE, evalBs, slot, Sv.peek, Sv.toD, ofO, Rs.bind, hl, i0, c_ne, c_lt, a1]
    · by_cases a2 : y ≤ x
      · simp [condP, evalT, evalE, evalBs, slot, Sv.peek, Sv.toD, ofO, Rs.bind, hl, i0, i1, c_ne, c_lt, c_le, a1, a2]
      · by_cases a3 : n ≤ y
        · simp [condP, evalT, evalE, evalBs, slot, Sv.peek, Sv.toD, ofO, Rs.bind, hl, i0, i1, c_ne, c_lt, c_le, c_ge, a1, a2, a3]
        · simp [condP, evalT, evalE, evalBs, slot, Sv.peek, Sv.toD, ofO, Rs.bind, hl, i0, i1, c_ne, c_lt, c_le, c_ge, a1, a2, a3, ht, hin]
  · have ng : ¬ (Good n is ∧ is ∉ f) := fun ⟨⟨a, c, e, _⟩, _⟩ => h2 (by rw [e]; rfl)
    have h3 : ¬ (is.length : Int) = 2 := by omega
    show _ = Rs.ok (!decide (Good n is ∧ is ∉ f))
    rw [decide_eq_false ng]
    simp [condP, evalT, evalE, evalBs, slot, Sv.peek, Sv.toD, ofO, Rs.bind, hl, c_ne, h3]

abbrev bodyP : Blk := (.cons (.ite [] condP (.cons (.ret [] (.cst .non)) .nil) .nil) (.cons (.mut [] .append 2 (.cons (.bc .tuple (.cons (.var 3) .nil)) .nil)) .nil))
theorem for_rt {tg : Tg} {b : Env → Rt} {d : Dv} {r : List Dv} {e e1 e2 : Env} {v : Sv} (h1 : bindD tg d e = some e1) (h2 : b e1 = .rt v e2) : forI tg b (d :: r) e = .rt v e2 := by
  rw [forI, h1]
  show (match b e1 with
      | .nx e2 => forI tg b r e2
      | .ct e2 => forI tg b r e2
      | .bk e2 => .nx e2
      | r => r) = _
  rw [h2]
open Classical in
theorem loopP (cl : Cl) (n : Int) (s1 : Option Sv) : ∀ (rows : List (Bool × List Int)) (f : List (List Int)) (o3 : Option Sv), f.length + rows.length ≤ LIM → (∃ g o, runP n (rows.map (·.2)) f = some g ∧ forI (.nm 3 false) (execB cl bodyP) (rows.map rd) [some (.sh (.int n)), s1, some (.l1 (f.map td)), o3] = .nx [some (.sh (.int n)), s1, some (.l1 (g.map td)), o]) ∨
    (runP n (rows.map (·.2)) f = none ∧ ∃ e, forI (.nm 3 false) (execB cl bodyP) (rows.map rd) [some (.sh (.int n)), s1, some (.l1 (f.map td)), o3] = .rt (.sh .non) e)
  | [], f, o3, _ => .inl ⟨f, o3, rfl, for_nil⟩
  | r :: rows, f, o3, hl => by
    have c := cond_ok cl n r f s1
    rw [List.length_cons] at hl
    rw [List.map_cons, List.map_cons, runP]
    by_cases h : Good n r.2 ∧ r.2 ∉ f
    · rw [if_pos h]
      rw [decide_eq_true h] at c
      have b : execB cl bodyP [some (.sh (.int n)), s1, some (.l1 (f.map td)), some (.sh (rd r))] = .nx [some (.sh (.int n)), s1, some (.l1 ((f ++ [r.2]).map td)), some (.sh (rd r))] := by
        unfold bodyP
        rw [blk_nx ((st_ite (fz := []) c).trans (by rw [if_neg (by simp)]; exact blk_nil))]
        rw [blk_nx (st_mut (xs := f.map td) (ds := [td r.2]) rfl (by simp only [frz, evalEs, evalE, evalBs, slot, Sv.peek, Sv.toD, Sv.share, ofO, Rs.bind, tup_rd]) (mut_app (by rw [List.length_map]; omega)))]
        rw [blk_nil, List.map_append]
        rfl
      rcases loopP cl n s1 rows (f ++ [r.2]) (some (.sh (rd r))) (by rw [List.length_append]; simp; omega) with ⟨g, o, h1, h2⟩ | ⟨h1, e, h2⟩
      · exact .inl ⟨g, o, h1, (for_nx rfl b).trans h2⟩
      · exact .inr ⟨h1, e, (for_nx rfl b).trans h2⟩
    · rw [if_neg h]
      rw [decide_eq_false h] at c
      have b : execB cl bodyP [some (.sh (.int n)), s1, some (.l1 (f.map td)), some (.sh (rd r))] = .rt (.sh .non) [some (.sh (.int n)), s1, some (.l1 (f.map td)), some (.sh (rd r))] := by
        unfold bodyP
        rw [blk_rt ((st_ite (fz := []) c).trans (by rw [if_pos (by rfl)]; exact blk_rt (st_ret (by rw [evalE]))))]
        rfl
      exact .inr ⟨rfl, _, for_rt rfl b⟩
theorem for_src {cl : Cl} {b : Bool} {a : Ex} {e : Env} {sv : Sv} {d : Dv} {ds : List Dv} (h : evalE cl a e = .ok sv) (h2 : viewS b sv = some d) (h3 : d.items = some ds) : evalS cl b (.seq a) e = .ok ds := by
  rw [evalS, h]
  show ((ofO (viewS b sv)).bind fun d => ofO d.items) = _
  rw [h2]
  show ofO d.items = _
  rw [h3]
  rfl
open Classical in
/-- what pairs_of tells -/
noncomputable def tellP (n : Int) (l : List (List Int)) : Dv := if Val n l then .tup ((l.map td).mergeSort leD) else .non
theorem st_setf {cl : Cl} {f : Nat} {a : Ex} {e : Env} {sv : Sv} {d : Dv} {C : Nat} {fs : List (Nat × Dv)} (h : evalE cl a e = .ok sv) (h2 : sv.share = some d) (h3 : slot e 0 = some (.o1 C fs)) (hl : fs.length < 999) : execS cl (.setf [] f a) e = .nx (e.set 0 (some (.o1 C (putD f d fs)))) := by
  rw [execS]
  show ((evalE cl a e).inE e fun x => match x.share, slot e 0 with
    | some d, some (.o1 C fs) => if fs.length < 999 then Rt.nx (e.set 0 (some (.o1 C (putD f d fs)))) else .no
    | _, _ => .no) = _
  rw [h]
  show (match sv.share, slot e 0 with
    | some d, some (.o1 C fs) => if fs.length < 999 then Rt.nx (e.set 0 (some (.o1 C (putD f d fs)))) else .no
    | _, _ => .no) = _
  rw [h2, h3]
  exact if_pos hl
theorem st_rai {cl : Cl} {C : Nat} {k : Bool} {e : Env} (h : cl.sub C C = some k) : execS cl (.rai C) e = .ex C none e := by
  rw [execS, h]
theorem blk_ite_ex {cl : Cl} {c : Ex} {C : Nat} {k : Bool} {e : Env} {b : Blk} (h : evalT cl c e = .ok true) (hs : cl.sub C C = some k) : execB cl (.cons (.ite [] c (.cons (.rai C) .nil) .nil) b) e = .ex C none e :=
  blk_ex ((st_ite (fz := []) h).trans (by rw [if_pos rfl]; exact blk_ex (st_rai hs)))
theorem blk_ite_no {cl : Cl} {c : Ex} {a b : Blk} {e : Env} (h : evalT cl c e = .ok false) : execB cl (.cons (.ite [] c a .nil) b) e = execB cl b e :=
  blk_nx ((st_ite (fz := []) h).trans (by rw [if_neg Bool.false_ne_true]; exact blk_nil))
theorem for_range {tg : Tg} {b : Env → Rt} {I : Nat → Env → Prop} : ∀ (m k : Nat) (e : Env), I k e → (∀ j, k ≤ j → j < k + m → ∀ e, I j e → ∃ e1 e2, bindD tg (.int (j : Int)) e = some e1 ∧ b e1 = .nx e2 ∧ I (j + 1) e2) →
    ∃ e2, forI tg b ((List.range' k m).map fun (i : Nat) => Dv.int (i : Int)) e = .nx e2 ∧ I (k + m) e2
  | 0, k, e, h, _ => ⟨e, for_nil, h⟩
  | m + 1, k, e, h, st => by
    obtain ⟨e1, e2, h1, h2, h3⟩ := st k (Nat.le_refl _) (by omega) e h
    obtain ⟨e3, h4, h5⟩ := for_range m (k + 1) e2 h3 fun j hj hl => st j (by omega) (by omega)
    refine ⟨e3, (for_nx h1 h2).trans h4, ?_⟩
    rw [show k + (m + 1) = k + 1 + m by omega]
    exact h5
theorem rng_nat (n : Nat) : rngI 0 (n : Int) = (List.range' 0 n).map fun (i : Nat) => Dv.int (i : Int) := by
  unfold rngI
  rw [show ((n : Int) - 0).toNat = n by omega, List.range_eq_range']
  apply List.map_congr_left
  intro i _
  rw [Int.zero_add]
theorem st_retv {cl : Cl} {i : Nat} {e : Env} {sv : Sv} (h : slot e i = some sv) : execS cl (.retv i) e = .rt sv (e.set i none) := by rw [execS, h]
theorem mut_ins {xs : List Dv} {d : Dv} {i : Int} (h : xs.length < LIM ∧ 0 ≤ i ∧ i < 2 ^ 63) : mutate .insert xs [.int i, d] = .ok (xs.take i.toNat ++ [d] ++ xs.drop i.toNat) := if_pos h
def Inv2 (l : List (List Int)) (v u : Nat) : Prop := (∀ r ∈ l, ∃ a b : Nat, r = [(a : Int), (b : Int)] ∧ a < b ∧ (b < v ∨ (b = v ∧ a < u))) ∧ l.Nodup
theorem inv_add {l : List (List Int)} {v u : Nat} (h : Inv2 l v u) (huv : u < v) : Inv2 (l ++ [[(u : Int), (v : Int)]]) v (u + 1) := by
  refine ⟨fun r hr => ?_, ?_⟩
  · rcases List.mem_append.mp hr with hr | hr
    · obtain ⟨a, b, e, h1, h2⟩ := h.1 r hr
      exact ⟨a, b, e, h1, by omega⟩
    · rw [List.mem_singleton] at hr
      exact ⟨u, v, hr, huv, by omega⟩
  · rw [List.nodup_append]
    refine ⟨h.2, by simp, fun a ha b hb e => ?_⟩
    rw [List.mem_singleton] at hb
    obtain ⟨x, y, e2, h1, h2⟩ := h.1 a ha
    rw [e, hb] at e2
    simp only [List.cons.injEq, and_true] at e2
    omega
theorem inv_up {l : List (List Int)} {v u : Nat} (h : Inv2 l v u) : Inv2 l v (u + 1) := ⟨fun r hr => by
  obtain ⟨a, b, e, h1, h2⟩ := h.1 r hr
  exact ⟨a, b, e, h1, by omega⟩, h.2⟩
theorem inv_next {l : List (List Int)} {v : Nat} (h : Inv2 l v v) : Inv2 l (v + 1) 0 := ⟨fun r hr => by
  obtain ⟨a, b, e, h1, h2⟩ := h.1 r hr
  exact ⟨a, b, e, h1, by omega⟩, h.2⟩
theorem inv_val {l : List (List Int)} {v : Nat} (h : Inv2 l v 0) : Val (v : Int) l := ⟨fun r hr => by
  obtain ⟨a, b, e, h1, h2⟩ := h.1 r hr
  exact ⟨a, b, e, by omega, by omega, by omega⟩, h.2⟩
def tri : Nat → Nat
  | 0 => 0
  | v + 1 => tri v + v
theorem tri_lt {v u : Nat} (h : v < 6) (hu : u < v) : tri v + u < 15 := by
  have : v = 1 ∨ v = 2 ∨ v = 3 ∨ v = 4 ∨ v = 5 := by omega
  rcases this with rfl | rfl | rfl | rfl | rfl <;> simp [tri] <;> omega
abbrev innB : Blk := (.cons (.ite [] (.cmp .Eq (.bin .Mod (.idx (.var 5) (.var 8)) (.idx (.lst (.cons (.cst (.int 2)) (.cons (.cst (.int 3)) (.cons (.cst (.int 2)) (.cons (.cst (.int 4)) .nil))))) (.var 4))) (.cst (.int 0))) (.cons (.mut [] .append 6 (.cons (.tup (.cons (.var 10) (.cons (.var 9) .nil))) .nil)) .nil) .nil) (.cons (.ite [] (.and (.cmp .Eq (.bin .Mod (.bin .FloorDiv (.idx (.var 5) (.var 8)) (.cst (.int 12))) (.idx (.lst (.cons (.cst (.int 2)) (.cons (.cst (.int 3)) (.cons (.cst (.int 5)) (.cons (.cst (.int 2)) .nil))))) (.var 4))) (.cst (.int 0))) (.cmp .Lt (.bc .len (.cons (.var 7) .nil)) (.cst (.int 6)))) (.cons (.mut [] .append 7 (.cons (.tup (.cons (.var 10) (.cons (.var 9) .nil))) .nil)) .nil) .nil) (.cons (.asg [] (.nm 8 false) (.bin .Add (.var 8) (.cst (.int 1)))) .nil)))
/-- the frame of _law_pairs -/
abbrev frD (s0 s1 s2 s3 : Option Sv) (kd : Int) (xs : List Int) (T B : List (List Int)) (k : Nat) (s9 s10 : Option Sv) : Env := [s0, s1, s2, s3, some (.sh (.int kd)), some (.sh (.lst (xs.map Dv.int))), some (.l1 (T.map td)), some (.l1 (B.map td)), some (.sh (.int (k : Int))), s9, s10]
theorem inn_ok (cl : Cl) (s0 s1 s2 s3 : Option Sv) (kd : Int) (hk : 0 ≤ kd ∧ kd < 4) (xs : List Int) (k : Nat) (hx : k < xs.length) (T B : List (List Int)) (hT : T.length ≤ 1000) (hB : B.length ≤ 6) (u v : Nat) :
    ∃ T' B', (T' = T ∨ T' = T ++ [[(u : Int), (v : Int)]]) ∧ (B' = B ∨ B' = B ++ [[(u : Int), (v : Int)]]) ∧ B'.length ≤ 6 ∧ execB cl innB (frD s0 s1 s2 s3 kd xs T B k (some (.sh (.int (v : Int)))) (some (.sh (.int (u : Int))))) = .nx (frD s0 s1 s2 s3 kd xs T' B' (k + 1) (some (.sh (.int (v : Int)))) (some (.sh (.int (u : Int))))) := by
  have i1 : index (.lst (xs.map Dv.int)) (.int (k : Int)) = .ok (.int xs[k]) := ixl (by rw [List.getElem?_map, List.getElem?_eq_getElem hx]; rfl)
  have m1 : ∃ m : Int, m ≠ 0 ∧ index (.lst [.int 2, .int 3, .int 2, .int 4]) (.int kd) = .ok (.int m) := by
    have : kd = 0 ∨ kd = 1 ∨ kd = 2 ∨ kd = 3 := by omega
    rcases this with rfl | rfl | rfl | rfl
    · exact ⟨2, by omega, rfl⟩
    · exact ⟨3, by omega, rfl⟩
    · exact ⟨2, by omega, rfl⟩
    · exact ⟨4, by omega, rfl⟩
  have m2 : ∃ m : Int, m ≠ 0 ∧ index (.lst [.int 2, .int 3, .int 5, .int 2]) (.int kd) = .ok (.int m) := by
    have : kd = 0 ∨ kd = 1 ∨ kd = 2 ∨ kd = 3 := by omega
    rcases this with rfl | rfl | rfl | rfl
    · exact ⟨2, by omega, rfl⟩
    · exact ⟨3, by omega, rfl⟩
    · exact ⟨5, by omega, rfl⟩
    · exact ⟨2, by omega, rfl⟩
  obtain ⟨m, m0, m1⟩ := m1
  obtain ⟨p, p0, p1⟩ := m2
  have a1 := b_mod xs[k] m m0
  have a2 := b_fdiv xs[k] 12 (by omega) (by decide)
  have a3 := b_mod (fdivD xs[k] 12) p p0
  -- the ties
  have st1 : ∃ T', (T' = T ∨ T' = T ++ [[(u : Int), (v : Int)]]) ∧ execS cl (.ite [] (.cmp .Eq (.bin .Mod (.idx (.var 5) (.var 8)) (.idx (.lst (.cons (.cst (.int 2)) (.cons (.cst (.int 3)) (.cons (.cst (.int 2)) (.cons (.cst (.int 4)) .nil))))) (.var 4))) (.cst (.int 0))) (.cons (.mut [] .append 6 (.cons (.tup (.cons (.var 10) (.cons (.var 9) .nil))) .nil)) .nil) .nil) (frD s0 s1 s2 s3 kd xs T B k (some (.sh (.int (v : Int)))) (some (.sh (.int (u : Int))))) = .nx (frD s0 s1 s2 s3 kd xs T' B k (some (.sh (.int (v : Int)))) (some (.sh (.int (u : Int))))) := by
    have c := ev_t (e := frD s0 s1 s2 s3 kd xs T B k (some (.sh (.int (v : Int)))) (some (.sh (.int (u : Int))))) (cl := cl) (ev_cmp (op := .Eq) (a := .bin .Mod (.idx (.var 5) (.var 8)) (.idx (.lst (.cons (.cst (.int 2)) (.cons (.cst (.int 3)) (.cons (.cst (.int 2)) (.cons (.cst (.int 4)) .nil))))) (.var 4))) (b := .cst (.int 0)) (ev_bin (ev_idx (ev_var (sv := .sh (.lst (xs.map Dv.int))) rfl rfl) (ev_var (sv := .sh (.int (k : Int))) rfl rfl) i1) (ev_idx (ev_lst (es_cons ev_cst rfl (es_cons ev_cst rfl (es_cons ev_cst rfl (es_cons ev_cst rfl es_nil))))) (ev_var (sv := .sh (.int kd)) rfl rfl) m1) a1) ev_cst (c_eq _ _))
    by_cases h : fmodD xs[k] m = 0
    · refine ⟨T ++ [[(u : Int), (v : Int)]], .inr rfl, ?_⟩
      rw [decide_eq_true h] at c
      have ap := st_mut (cl := cl) (fz := []) (op := .append) (es := .cons (.tup (.cons (.var 10) (.cons (.var 9) .nil))) .nil) (i := 6) (e := frD s0 s1 s2 s3 kd xs T B k (some (.sh (.int (v : Int)))) (some (.sh (.int (u : Int))))) (xs := T.map td) (ds := [td [(u : Int), (v : Int)]]) rfl (es_cons (ev_tup (es_cons (ev_var (sv := .sh (.int (u : Int))) rfl rfl) rfl (es_cons (ev_var (sv := .sh (.int (v : Int))) rfl rfl) rfl es_nil))) rfl es_nil) (mut_app (by rw [List.length_map]; unfold LIM; omega))
      refine (st_ite (fz := []) c).trans ?_
      rw [if_pos rfl]
      refine (blk_nx ap).trans (blk_nil.trans ?_)
      show Rt.nx (frD s0 s1 s2 s3 kd xs T B k _ _ |>.set 6 _) = _
      rw [show T.map td ++ [td [(u : Int), (v : Int)]] = (T ++ [[(u : Int), (v : Int)]]).map td by rw [List.map_append]; rfl]
      rfl
    · refine ⟨T, .inl rfl, ?_⟩
      rw [decide_eq_false h] at c
      refine (st_ite (fz := []) c).trans ?_
      rw [if_neg Bool.false_ne_true]
      exact blk_nil
  obtain ⟨T', hT', st1⟩ := st1
  have hT2 : T'.length ≤ 1001 := by
    rcases hT' with rfl | rfl
    · omega
    · rw [List.length_append]; simp; omega
  have st2 : ∃ B', (B' = B ∨ B' = B ++ [[(u : Int), (v : Int)]]) ∧ B'.length ≤ 6 ∧ execS cl (.ite [] (.and (.cmp .Eq (.bin .Mod (.bin .FloorDiv (.idx (.var 5) (.var 8)) (.cst (.int 12))) (.idx (.lst (.cons (.cst (.int 2)) (.cons (.cst (.int 3)) (.cons (.cst (.int 5)) (.cons (.cst (.int 2)) .nil))))) (.var 4))) (.cst (.int 0))) (.cmp .Lt (.bc .len (.cons (.var 7) .nil)) (.cst (.int 6)))) (.cons (.mut [] .append 7 (.cons (.tup (.cons (.var 10) (.cons (.var 9) .nil))) .nil)) .nil) .nil) (frD s0 s1 s2 s3 kd xs T' B k (some (.sh (.int (v : Int)))) (some (.sh (.int (u : Int))))) = .nx (frD s0 s1 s2 s3 kd xs T' B' k (some (.sh (.int (v : Int)))) (some (.sh (.int (u : Int))))) := by
    have c := ev_cmp (cl := cl) (e := frD s0 s1 s2 s3 kd xs T' B k (some (.sh (.int (v : Int)))) (some (.sh (.int (u : Int))))) (op := .Eq) (a := .bin .Mod (.bin .FloorDiv (.idx (.var 5) (.var 8)) (.cst (.int 12))) (.idx (.lst (.cons (.cst (.int 2)) (.cons (.cst (.int 3)) (.cons (.cst (.int 5)) (.cons (.cst (.int 2)) .nil))))) (.var 4))) (b := .cst (.int 0)) (ev_bin (ev_bin (ev_idx (ev_var (sv := .sh (.lst (xs.map Dv.int))) rfl rfl) (ev_var (sv := .sh (.int (k : Int))) rfl rfl) i1) ev_cst a2) (ev_idx (ev_lst (es_cons ev_cst rfl (es_cons ev_cst rfl (es_cons ev_cst rfl (es_cons ev_cst rfl es_nil))))) (ev_var (sv := .sh (.int kd)) rfl rfl) p1) a3) ev_cst (c_eq _ _)
    have ln : bcall .len [.lst (B.map td)] = .ok (.sh (.int (B.length : Int))) := by
      show Rs.ok (Sv.sh (Dv.int ((B.map td).length : Int))) = _
      rw [List.length_map]
    have c2 := ev_cmp (cl := cl) (e := frD s0 s1 s2 s3 kd xs T' B k (some (.sh (.int (v : Int)))) (some (.sh (.int (u : Int))))) (op := .Lt) (a := .bc .len (.cons (.var 7) .nil)) (b := .cst (.int 6)) (ev_bc1 (ev_var (sv := .l1 (B.map td)) (r := .bw (.lst (B.map td))) rfl rfl) ln) ev_cst (c_lt _ _)
    by_cases h : fmodD (fdivD xs[k] 12) p = 0
    · by_cases h2 : (B.length : Int) < 6
      · rw [decide_eq_true h] at c
        rw [decide_eq_true h2] at c2
        refine ⟨B ++ [[(u : Int), (v : Int)]], .inr rfl, by rw [List.length_append]; simp; omega, ?_⟩
        have ap := st_mut (cl := cl) (fz := []) (op := .append) (es := .cons (.tup (.cons (.var 10) (.cons (.var 9) .nil))) .nil) (i := 7) (e := frD s0 s1 s2 s3 kd xs T' B k (some (.sh (.int (v : Int)))) (some (.sh (.int (u : Int))))) (xs := B.map td) (ds := [td [(u : Int), (v : Int)]]) rfl (es_cons (ev_tup (es_cons (ev_var (sv := .sh (.int (u : Int))) rfl rfl) rfl (es_cons (ev_var (sv := .sh (.int (v : Int))) rfl rfl) rfl es_nil))) rfl es_nil) (mut_app (by rw [List.length_map]; unfold LIM; omega))
        refine (st_ite (fz := []) (ev_t (ev_and_t c c2))).trans ?_
        rw [if_pos rfl]
        refine (blk_nx ap).trans (blk_nil.trans ?_)
        show Rt.nx (frD s0 s1 s2 s3 kd xs T' B k _ _ |>.set 7 _) = _
        rw [show B.map td ++ [td [(u : Int), (v : Int)]] = (B ++ [[(u : Int), (v : Int)]]).map td by rw [List.map_append]; rfl]
        rfl
      · rw [decide_eq_true h] at c
        rw [decide_eq_false h2] at c2
        refine ⟨B, .inl rfl, hB, ?_⟩
        refine (st_ite (fz := []) (ev_t (ev_and_t c c2))).trans ?_
        rw [if_neg Bool.false_ne_true]
        exact blk_nil
    · rw [decide_eq_false h] at c
      refine ⟨B, .inl rfl, hB, ?_⟩
      refine (st_ite (fz := []) (ev_t (ev_and_f c))).trans ?_
      rw [if_neg Bool.false_ne_true]
      exact blk_nil
  obtain ⟨B', hB', lB', st2⟩ := st2
  refine ⟨T', B', hT', hB', lB', ?_⟩
  unfold innB
  rw [blk_nx st1, blk_nx st2]
  refine (blk_nx (st_asg (sv := .sh (.int ((k : Int) + 1))) (ev_bin (ev_var (sv := .sh (.int (k : Int))) rfl rfl) ev_cst (b_add _ _)) rfl)).trans (blk_nil.trans ?_)
  show Rt.nx (frD s0 s1 s2 s3 kd xs T' B' k _ _ |>.set 8 _) = _
  rfl
theorem comp_id {f : Dv → Rs (Option Dv)} : ∀ {ds : List Dv}, (∀ d ∈ ds, f d = .ok (some d)) → compI f ds = .ok ds
  | [], _ => by rw [compI]
  | d :: r, h => by
    rw [compI, h d List.mem_cons_self, Rs.bind_ok, comp_id fun x hx => h x (List.mem_cons_of_mem _ hx), Rs.bind_ok]
end Dg

/-! Plain: sorted. -/
namespace Dg
open PySem PySem.W PyProof.Rows
theorem nt_f {b : Bool} (h : (!b) = true) : b = false := by cases b <;> first | rfl | cases h
abbrev keyD (d : Dv) : List (Int ⊕ List Nat) := keyToks (toP d)
theorem leD_eq (a b : Dv) : leD a b = !PyProof.Rows.lexLt itemOrd (keyD b) (keyD a) := rfl
theorem leD_trans (a b c : Dv) (h : leD a b = true) (h2 : leD b c = true) : leD a c = true := by
  rw [leD_eq] at *
  have h := nt_f h
  have h2 := nt_f h2
  cases q : PyProof.Rows.lexLt itemOrd (keyD c) (keyD a) with
  | false => rfl
  | true =>
    rcases lex_negTrans (O := itemOrd) (keyD c) (keyD b) (keyD a) q with z | z
    · rw [h2] at z; cases z
    · rw [h] at z; cases z
theorem leD_total (a b : Dv) : (leD a b || leD b a) = true := by
  rw [leD_eq, leD_eq]
  cases q : PyProof.Rows.lexLt itemOrd (keyD b) (keyD a) with
  | false => rfl
  | true =>
    cases q2 : PyProof.Rows.lexLt itemOrd (keyD a) (keyD b) with
    | false => rfl
    | true =>
      have := lex_trans (O := itemOrd) _ _ _ q q2
      rw [lex_irrefl] at this
      cases this
theorem leD_anti {a b : Dv} (h : leD a b = true) (h2 : leD b a = true) : keyD a = keyD b := by
  rw [leD_eq] at *
  exact lex_total (O := itemOrd) _ _ (nt_f h2) (nt_f h)
theorem sorted_pw (l : List Dv) : List.Pairwise (fun a b => leD a b = true) (l.mergeSort leD) := List.pairwise_mergeSort leD_trans leD_total l
/-- two orders of the same things come to the same -/
theorem sort_perm {l m : List Dv} (inj : ∀ a ∈ l, ∀ b ∈ l, keyD a = keyD b → a = b) (h : l.Perm m) : l.mergeSort leD = m.mergeSort leD :=
  List.Perm.eq_of_pairwise (fun a b ha hb h1 h2 => inj a (List.mem_mergeSort.mp ha) b (h.mem_iff.mpr (List.mem_mergeSort.mp hb)) (leD_anti h1 h2)) (sorted_pw l) (sorted_pw m) ((List.mergeSort_perm l leD).trans (h.trans (List.mergeSort_perm m leD).symm))
/-- a row that is in order stays -/
theorem sort_sorted {l m : List Dv} (inj : ∀ a ∈ l, ∀ b ∈ l, keyD a = keyD b → a = b) (h : l.Perm m) (hm : List.Pairwise (fun a b => leD a b = true) m) : l.mergeSort leD = m :=
  List.Perm.eq_of_pairwise (fun a b ha hb h1 h2 => inj a (List.mem_mergeSort.mp ha) b (h.mem_iff.mpr hb) (leD_anti h1 h2)) (sorted_pw l) hm ((List.mergeSort_perm l leD).trans h)
theorem key_int {i j : Int} (h : keyD (.int i) = keyD (.int j)) : Dv.int i = .int j := by
  have h : [Sum.inl i] = ([Sum.inl j] : List (Int ⊕ List Nat)) := h
  injection h with h
  injection h with h
  rw [h]
theorem keyAll_ints : ∀ {a b : List Int}, keyToksAll (toPs (a.map Dv.int)) = keyToksAll (toPs (b.map Dv.int)) → a = b
  | [], [], _ => rfl
  | [], y :: b, h => by
    have h : [Sum.inl 0] = (Sum.inl 1 :: (keyToks (.int y) ++ keyToksAll (toPs (b.map Dv.int))) : List (Int ⊕ List Nat)) := h
    injection h with h
    injection h with h
    cases h
  | x :: a, [], h => by
    have h : (Sum.inl 1 :: (keyToks (.int x) ++ keyToksAll (toPs (a.map Dv.int))) : List (Int ⊕ List Nat)) = [Sum.inl 0] := h
    injection h with h
    injection h with h
    cases h
  | x :: a, y :: b, h => by
    have h : (Sum.inl 1 :: Sum.inl x :: keyToksAll (toPs (a.map Dv.int)) : List (Int ⊕ List Nat)) = Sum.inl 1 :: Sum.inl y :: keyToksAll (toPs (b.map Dv.int)) := h
    injection h with _ h
    injection h with h1 h2
    injection h1 with h1
    rw [h1, keyAll_ints h2]
theorem key_td {a b : List Int} (h : keyD (td a) = keyD (td b)) : td a = td b := by rw [keyAll_ints (show keyToksAll (toPs (a.map Dv.int)) = keyToksAll (toPs (b.map Dv.int)) from h)]
theorem le_int (i j : Int) : leD (.int i) (.int j) = decide (i ≤ j) := by
  rw [leD_eq]
  show (!PyProof.Rows.lexLt itemOrd [Sum.inl j] [Sum.inl i]) = _
  rw [lex_one]
  show (!decide (j < i)) = _
  by_cases h : j < i
  · rw [decide_eq_true h, decide_eq_false (by omega)]; rfl
  · rw [decide_eq_false h, decide_eq_true (by omega)]; rfl
/-- the order of rows of numbers -/
def leI : List Int → List Int → Bool
  | [], _ => true
  | _ :: _, [] => false
  | x :: a, y :: b => decide (x < y) || (decide (x = y) && leI a b)
theorem lt_ints : ∀ a b : List Int, PyProof.Rows.lexLt itemOrd (keyToksAll (toPs (b.map Dv.int))) (keyToksAll (toPs (a.map Dv.int))) = !leI a b
  | [], [] => by decide
  | [], y :: b => by
    show PyProof.Rows.lexLt itemOrd (Sum.inl 1 :: Sum.inl y :: keyToksAll (toPs (b.map Dv.int))) [Sum.inl 0] = false
    rw [lex_cons]
    rfl
  | x :: a, [] => by
    show PyProof.Rows.lexLt itemOrd [Sum.inl 0] (Sum.inl 1 :: Sum.inl x :: keyToksAll (toPs (a.map Dv.int))) = true
    rw [lex_cons]
    rfl
  | x :: a, y :: b => by
    show PyProof.Rows.lexLt itemOrd (Sum.inl 1 :: Sum.inl y :: keyToksAll (toPs (b.map Dv.int))) (Sum.inl 1 :: Sum.inl x :: keyToksAll (toPs (a.map Dv.int))) = !(decide (x < y) || (decide (x = y) && leI a b))
    rw [lex_self (O := itemOrd), lex_cons, lt_ints a b]
    show (decide (y < x) || (!decide (x < y) && !leI a b)) = _
    by_cases h1 : y < x
    · rw [decide_eq_true h1, decide_eq_false (show ¬ x < y by omega), decide_eq_false (show ¬ x = y by omega)]; rfl
    · by_cases h2 : x < y
      · rw [decide_eq_false h1, decide_eq_true h2]; rfl
      · rw [decide_eq_false h1, decide_eq_false h2, decide_eq_true (show x = y by omega)]
        cases leI a b <;> rfl
theorem le_td (a b : List Int) : leD (td a) (td b) = leI a b := by
  rw [leD_eq]
  show (!PyProof.Rows.lexLt itemOrd (keyToksAll (toPs (b.map Dv.int))) (keyToksAll (toPs (a.map Dv.int)))) = _
  rw [lt_ints, Bool.not_not]
/-- sorted numbers, sorted rows, as numbers and rows -/
def leZ (i j : Int) : Bool := decide (i ≤ j)
theorem sort_ints (l : List Int) : (l.map Dv.int).mergeSort leD = (l.mergeSort leZ).map Dv.int := (List.map_mergeSort fun a _ b _ => (le_int a b).symm).symm
theorem sort_tds (l : List (List Int)) : (l.map td).mergeSort leD = (l.mergeSort leI).map td := (List.map_mergeSort fun a _ b _ => (le_td a b).symm).symm
theorem leZ_pw (l : List Int) : List.Pairwise (fun a b => leZ a b = true) (l.mergeSort leZ) := List.pairwise_mergeSort (fun a b c h h2 => by unfold leZ at *; simp at *; omega) (fun a b => by unfold leZ; simp; omega) l
theorem sortZ_perm {l m : List Int} (h : l.Perm m) : l.mergeSort leZ = m.mergeSort leZ :=
  List.Perm.eq_of_pairwise (fun a b _ _ h1 h2 => by unfold leZ at *; simp at *; omega) (leZ_pw l) (leZ_pw m) ((List.mergeSort_perm l leZ).trans (h.trans (List.mergeSort_perm m leZ).symm))
theorem leI_pw (l : List (List Int)) : List.Pairwise (fun a b => leI a b = true) (l.mergeSort leI) :=
  List.pairwise_mergeSort (fun a b c h h2 => by rw [← le_td] at *; exact leD_trans _ _ _ h h2) (fun a b => by rw [← le_td, ← le_td]; exact leD_total _ _) l
theorem leI_anti {a b : List Int} (h : leI a b = true) (h2 : leI b a = true) : a = b := by
  rw [← le_td] at *
  exact keyAll_ints (leD_anti h h2)
theorem sortI_perm {l m : List (List Int)} (h : l.Perm m) : l.mergeSort leI = m.mergeSort leI :=
  List.Perm.eq_of_pairwise (fun a b _ _ h1 h2 => leI_anti h1 h2) (leI_pw l) (leI_pw m) ((List.mergeSort_perm l leI).trans (h.trans (List.mergeSort_perm m leI).symm))
theorem sort_okI (l : List Int) : sortOk (l.map Dv.int) = true := by
  unfold sortOk
  simp only [Bool.and_eq_true, Bool.or_eq_true, List.all_eq_true, List.mem_map]
  refine ⟨⟨?_, ?_⟩, .inr ?_⟩
  · rintro _ ⟨a, _, rfl⟩; rfl
  · rintro _ ⟨a, _, rfl⟩ _ ⟨b, _, rfl⟩; rfl
  · rintro _ ⟨a, _, rfl⟩; rfl
theorem bc_sortI (l : List Int) : bcall .sorted [.lst (l.map Dv.int)] = .ok (.l1 ((l.mergeSort leZ).map Dv.int)) := by
  show sorted1 (l.map Dv.int) = _
  unfold sorted1
  rw [if_pos (sort_okI l), sort_ints]
theorem sort_okT {l : List (List Int)} (h : ∀ r ∈ l, r ≠ []) : sortOk (l.map td) = true := by
  unfold sortOk
  simp only [Bool.and_eq_true, Bool.or_eq_true, List.all_eq_true, List.mem_map]
  refine ⟨⟨?_, ?_⟩, .inl ?_⟩
  · rintro _ ⟨a, _, rfl⟩
    exact ok_td a
  · rintro _ ⟨a, _, rfl⟩ _ ⟨b, _, rfl⟩
    exact alike_ints a b
  · rintro _ ⟨a, ha, rfl⟩
    cases a with
    | nil => exact absurd rfl (h [] ha)
    | cons x r => rfl
theorem bc_sortT {l : List (List Int)} (h : ∀ r ∈ l, r ≠ []) : bcall .sorted [.lst (l.map td)] = .ok (.l1 ((l.mergeSort leI).map td)) := by
  show sorted1 (l.map td) = _
  unfold sorted1
  rw [if_pos (sort_okT h), sort_tds]
theorem bc_sortIT (l : List Int) : bcall .sorted [td l] = .ok (.l1 ((l.mergeSort leZ).map Dv.int)) := by
  show sorted1 (l.map Dv.int) = _
  unfold sorted1
  rw [if_pos (sort_okI l), sort_ints]
theorem b_add_td {a b : List Int} (h : a.length + b.length ≤ LIM) : binop .Add (td a) (td b) = .ok (.sh (td (a ++ b))) := by
  show (if (a.map Dv.int).length + (b.map Dv.int).length ≤ LIM then Rs.ok (Sv.sh (.tup (a.map Dv.int ++ b.map Dv.int))) else .no) = _
  rw [if_pos (by rw [List.length_map, List.length_map]; exact h), ← List.map_append]
theorem c_eq_td (a b : List Int) : cmpop .Eq (td a) (td b) = .ok (decide (a = b)) := by
  show (if okD (td a) && okD (td b) then Rs.ok (eqD (td a) (td b)) else .no) = _
  rw [ok_td, ok_td, eq_td]
  rfl
theorem c_ne_td (a b : List Int) : cmpop .NotEq (td a) (td b) = .ok (!decide (a = b)) := by
  show (if okD (td a) && okD (td b) then Rs.ok (!eqD (td a) (td b)) else .no) = _
  rw [ok_td, ok_td, eq_td]
  rfl
theorem ok_tdsT (l : List (List Int)) : okD (.tup (l.map td)) = true := by
  have h := ok_tds l
  exact h
theorem in_tdsT (a : List Int) (l : List (List Int)) : cmpop .In (td a) (.tup (l.map td)) = .ok (decide (a ∈ l)) := by
  have h := in_tds a l
  show (if okD (td a) && okD (.tup (l.map td)) then Rs.ok ((l.map td).any fun z => eqD z (td a)) else .no) = _
  have h : (if okD (td a) && okD (.lst (l.map td)) then Rs.ok ((l.map td).any fun z => eqD z (td a)) else .no) = _ := h
  rw [ok_td, ok_tds] at h
  rw [ok_td, ok_tdsT]
  exact h
theorem nin_tds (a : List Int) (l : List (List Int)) : cmpop .NotIn (td a) (.lst (l.map td)) = .ok (!decide (a ∈ l)) := by
  have h := in_tds a l
  show (if okD (td a) && okD (.lst (l.map td)) then Rs.ok (!(l.map td).any fun z => eqD z (td a)) else .no) = _
  have h : (if okD (td a) && okD (.lst (l.map td)) then Rs.ok ((l.map td).any fun z => eqD z (td a)) else .no) = _ := h
  rw [ok_td, ok_tds] at *
  rw [if_pos (show (true && true) = true from rfl)] at *
  injection h with h
  rw [h]
theorem nin_tdsT (a : List Int) (l : List (List Int)) : cmpop .NotIn (td a) (.tup (l.map td)) = .ok (!decide (a ∈ l)) := by
  have h := in_tds a l
  show (if okD (td a) && okD (.tup (l.map td)) then Rs.ok (!(l.map td).any fun z => eqD z (td a)) else .no) = _
  have h : (if okD (td a) && okD (.lst (l.map td)) then Rs.ok ((l.map td).any fun z => eqD z (td a)) else .no) = _ := h
  rw [ok_td, ok_tds] at h
  rw [ok_td, ok_tdsT]
  rw [if_pos (show (true && true) = true from rfl)] at *
  injection h with h
  rw [h]
/-- a number in a row of numbers -/
theorem in_ints (a : Int) (l : List Int) : cmpop .In (.int a) (.lst (l.map Dv.int)) = .ok (decide (a ∈ l)) := by
  have hk : okD (.lst (l.map Dv.int)) = true := by
    have h := dep_ints l
    have h2 : PyData.depth (.list (toPs (l.map Dv.int))) ≤ 64 := by unfold PyData.depth; omega
    show (PyData.canLayAll0 (toPs (l.map Dv.int)) && decide (PyData.depth (.list (toPs (l.map Dv.int))) ≤ 64)) = true
    rw [lay_ints l, decide_eq_true h2]
    rfl
  show (if okD (.int a) && okD (.lst (l.map Dv.int)) then Rs.ok ((l.map Dv.int).any fun z => eqD z (.int a)) else .no) = _
  rw [ok_int, hk]
  show Rs.ok ((l.map Dv.int).any fun z => eqD z (.int a)) = _
  congr 1
  rw [List.any_map]
  have e : ((fun z => eqD z (.int a)) ∘ Dv.int) = fun z => decide (z = a) := by
    funext z
    exact eq_int z a
  rw [e]
  by_cases h : a ∈ l
  · rw [decide_eq_true h, List.any_eq_true]
    exact ⟨a, h, by simp⟩
  · rw [decide_eq_false h, List.any_eq_false]
    intro z hz
    simp
    rintro rfl
    exact h hz
theorem nin_ints (a : Int) (l : List Int) : cmpop .NotIn (.int a) (.lst (l.map Dv.int)) = .ok (!decide (a ∈ l)) := by
  have h := in_ints a l
  show (if okD (.int a) && okD (.lst (l.map Dv.int)) then Rs.ok (!(l.map Dv.int).any fun z => eqD z (.int a)) else .no) = _
  have h : (if okD (.int a) && okD (.lst (l.map Dv.int)) then Rs.ok ((l.map Dv.int).any fun z => eqD z (.int a)) else .no) = _ := h
  split at h
  · rename_i hc
    rw [if_pos hc]
    injection h with h
    rw [h]
  · cases h
theorem in_intsT (a : Int) (l : List Int) : cmpop .In (.int a) (td l) = .ok (decide (a ∈ l)) := by
  have h := in_ints a l
  show (if okD (.int a) && okD (td l) then Rs.ok ((l.map Dv.int).any fun z => eqD z (.int a)) else .no) = _
  have h : (if okD (.int a) && okD (.lst (l.map Dv.int)) then Rs.ok ((l.map Dv.int).any fun z => eqD z (.int a)) else .no) = _ := h
  rw [ok_int, ok_td]
  split at h
  · exact h
  · cases h
theorem nin_intsT (a : Int) (l : List Int) : cmpop .NotIn (.int a) (td l) = .ok (!decide (a ∈ l)) := by
  have h := in_intsT a l
  show (if okD (.int a) && okD (td l) then Rs.ok (!(l.map Dv.int).any fun z => eqD z (.int a)) else .no) = _
  have h : (if okD (.int a) && okD (td l) then Rs.ok ((l.map Dv.int).any fun z => eqD z (.int a)) else .no) = _ := h
  rw [ok_int, ok_td] at *
  rw [if_pos (show (true && true) = true from rfl)] at *
  injection h with h
  rw [h]
theorem len_int (ns : List Int) : bcall .len [.lst (ns.map Dv.int)] = .ok (.sh (.int (ns.length : Int))) := by
  show Rs.ok (Sv.sh (.int ((ns.map Dv.int).length : Int))) = _
  rw [List.length_map]
theorem len_intT (ns : List Int) : bcall .len [td ns] = .ok (.sh (.int (ns.length : Int))) := by
  show Rs.ok (Sv.sh (.int ((ns.map Dv.int).length : Int))) = _
  rw [List.length_map]
theorem ixl_int {ns : List Int} {k : Nat} (h : k < ns.length) : index (.lst (ns.map Dv.int)) (.int (k : Int)) = .ok (.int ns[k]) := ixl (by rw [List.getElem?_map, List.getElem?_eq_getElem h]; rfl)
theorem ixt_int {ns : List Int} {k : Nat} (h : k < ns.length) : index (td ns) (.int (k : Int)) = .ok (.int ns[k]) := ixt (by rw [List.getElem?_map, List.getElem?_eq_getElem h]; rfl)
end Dg

/-! Plain: going along pairs. -/
namespace Dg
open PySem
abbrev pr (p : Int × Int) : List Int := [p.1, p.2]
abbrev tp (p : Int × Int) : Dv := td (pr p)
def stepF (f : List Int) (p : Int × Int) : List Int := if p.1 ∈ f ∧ p.2 ∉ f then f ++ [p.2] else f
def passF (Q : List (Int × Int)) (f : List Int) : List Int := Q.foldl stepF f
/-- nothing is left to go to -/
def Shut (Q : List (Int × Int)) (f : List Int) : Prop := ∀ p ∈ Q, p.1 ∈ f → p.2 ∈ f
theorem step_sub {f : List Int} {p : Int × Int} {x : Int} (h : x ∈ f) : x ∈ stepF f p := by
  unfold stepF
  split
  · exact List.mem_append_left _ h
  · exact h
theorem pass_sub {x : Int} : ∀ {Q : List (Int × Int)} {f : List Int}, x ∈ f → x ∈ passF Q f
  | [], _, h => h
  | p :: Q, f, h => pass_sub (Q := Q) (step_sub (p := p) h)
theorem step_nd {f : List Int} {p : Int × Int} (h : f.Nodup) : (stepF f p).Nodup := by
  unfold stepF
  split
  · rename_i hc
    rw [List.nodup_append]
    refine ⟨h, by simp, fun a ha b hb e => ?_⟩
    rw [List.mem_singleton] at hb
    exact hc.2 (by rw [← hb, ← e]; exact ha)
  · exact h
theorem pass_nd : ∀ {Q : List (Int × Int)} {f : List Int}, f.Nodup → (passF Q f).Nodup
  | [], _, h => h
  | p :: Q, f, h => pass_nd (Q := Q) (step_nd (p := p) h)
theorem step_in {f : List Int} {p : Int × Int} {x : Int} (h : x ∈ stepF f p) : x ∈ f ∨ (p.1 ∈ f ∧ x = p.2) := by
  unfold stepF at h
  split at h
  · rename_i hc
    rcases List.mem_append.mp h with h | h
    · exact .inl h
    · exact .inr ⟨hc.1, List.mem_singleton.mp h⟩
  · exact .inl h
/-- what is shut holds what a pass comes to -/
theorem pass_in {C : List Int} {x : Int} : ∀ {Q : List (Int × Int)} {f : List Int}, Shut Q C → (∀ y ∈ f, y ∈ C) → x ∈ passF Q f → x ∈ C
  | [], _, _, h, hx => h x hx
  | p :: Q, f, sh, h, hx => by
    refine pass_in (Q := Q) (f := stepF f p) (fun q hq => sh q (List.mem_cons_of_mem _ hq)) (fun y hy => ?_) hx
    rcases step_in hy with hy | ⟨h1, rfl⟩
    · exact h y hy
    · exact sh p List.mem_cons_self (h _ h1)
theorem step_hit {f : List Int} {p : Int × Int} (h : p.1 ∈ f) : p.2 ∈ stepF f p := by
  unfold stepF
  split
  · exact List.mem_append_right _ (List.mem_singleton.mpr rfl)
  · rename_i hc
    exact Classical.byContradiction fun z => hc ⟨h, z⟩
/-- what a pass over pairs that don't end at x does not bring -/
theorem pass_out {x : Int} : ∀ {Q : List (Int × Int)} {f : List Int}, (∀ p ∈ Q, p.2 ≠ x) → x ∈ passF Q f → x ∈ f
  | [], _, _, h => h
  | p :: Q, f, hq, h => by
    have h1 := pass_out (Q := Q) (f := stepF f p) (fun q z => hq q (List.mem_cons_of_mem _ z)) h
    rcases step_in h1 with h1 | ⟨_, e⟩
    · exact h1
    · exact absurd e.symm (hq p List.mem_cons_self)
/-- no pair ends where an earlier one, or it itself, begins: one pass is enough -/
theorem pass_shut : ∀ {Q : List (Int × Int)} {f : List Int}, (∀ p ∈ Q, p.2 ≠ p.1) → List.Pairwise (fun p q => q.2 ≠ p.1) Q → Shut Q (passF Q f)
  | [], _, _, _ => fun p hp => by cases hp
  | p :: Q, f, h1, h2 => fun q hq hx => by
    obtain ⟨h3, h4⟩ := List.pairwise_cons.mp h2
    rcases List.mem_cons.mp hq with rfl | hq
    · have h5 : q.1 ∈ stepF f q := pass_out (Q := Q) h3 hx
      rcases step_in h5 with h5 | ⟨_, e⟩
      · exact pass_sub (Q := Q) (step_hit h5)
      · exact absurd e.symm (h1 q List.mem_cons_self)
    · exact pass_shut (Q := Q) (f := stepF f p) (fun q z => h1 q (List.mem_cons_of_mem _ z)) h4 q hq hx
theorem step_len (f : List Int) (p : Int × Int) : f.length ≤ (stepF f p).length := by
  unfold stepF
  split
  · rw [List.length_append]; omega
  · exact Nat.le_refl _
theorem pass_len : ∀ (Q : List (Int × Int)) (f : List Int), f.length ≤ (passF Q f).length
  | [], _ => Nat.le_refl _
  | p :: Q, f => Nat.le_trans (step_len f p) (pass_len Q (stepF f p))
/-- a pass that brings nothing: shut -/
theorem pass_still : ∀ {Q : List (Int × Int)} {f : List Int}, (passF Q f).length = f.length → Shut Q f ∧ passF Q f = f
  | [], _, _ => ⟨fun p hp => by (cases hp), rfl⟩
  | p :: Q, f, h => by
    have h1 := step_len f p
    have h2 := pass_len Q (stepF f p)
    have h : (passF Q (stepF f p)).length = f.length := h
    have e : stepF f p = f := by
      unfold stepF at *
      split
      · rename_i hc
        rw [if_pos hc, List.length_append] at h1 h2
        rw [if_pos hc] at h
        have : ([p.2] : List Int).length = 1 := rfl
        omega
      · rfl
    obtain ⟨h3, h4⟩ := pass_still (Q := Q) (f := stepF f p) (by omega)
    rw [e] at h3
    refine ⟨fun q hq hx => ?_, by rw [show passF (p :: Q) f = passF Q (stepF f p) from rfl, h4, e]⟩
    rcases List.mem_cons.mp hq with rfl | hq
    · have := step_hit hx
      rw [e] at this
      exact this
    · exact h3 q hq hx
/-- passes, one after the other -/
def passN (Q : List (Int × Int)) : Nat → List Int → List Int
  | 0, f => f
  | k + 1, f => passN Q k (passF Q f)
theorem passN_nd {Q : List (Int × Int)} : ∀ {k : Nat} {f : List Int}, f.Nodup → (passN Q k f).Nodup
  | 0, _, h => h
  | k + 1, f, h => passN_nd (k := k) (pass_nd h)
theorem passN_sub {Q : List (Int × Int)} {x : Int} : ∀ {k : Nat} {f : List Int}, x ∈ f → x ∈ passN Q k f
  | 0, _, h => h
  | k + 1, f, h => passN_sub (k := k) (pass_sub h)
theorem passN_in {Q : List (Int × Int)} {C : List Int} {x : Int} (sh : Shut Q C) : ∀ {k : Nat} {f : List Int}, (∀ y ∈ f, y ∈ C) → x ∈ passN Q k f → x ∈ C
  | 0, _, h, hx => h x hx
  | k + 1, f, h, hx => passN_in sh (k := k) (f := passF Q f) (fun y hy => pass_in sh h hy) hx
theorem passN_shut {Q : List (Int × Int)} : ∀ {k : Nat} {f : List Int}, (Shut Q (passN Q k f)) ∨ f.length + k ≤ (passN Q k f).length
  | 0, f => .inr (Nat.le_refl _)
  | k + 1, f => by
    have h1 := pass_len Q f
    by_cases h : (passF Q f).length = f.length
    · obtain ⟨h2, h3⟩ := pass_still h
      have : ∀ k, passN Q k f = f := fun k => by
        induction k with
        | zero => rfl
        | succ k ih => rw [passN, h3, ih]
      exact .inl (by rw [this]; exact h2)
    · rcases passN_shut (Q := Q) (k := k) (f := passF Q f) with z | z
      · exact .inl z
      · exact .inr (by rw [passN]; omega)
/-- so many names -/
theorem nd_len {l : List Int} {n : Nat} (nd : l.Nodup) (h : ∀ x ∈ l, 0 ≤ x ∧ x < (n : Int)) : l.length ≤ n := by
  have : l ⊆ (List.range n).map fun (i : Nat) => (i : Int) := fun x hx => by
    obtain ⟨h1, h2⟩ := h x hx
    exact List.mem_map.mpr ⟨x.toNat, List.mem_range.mpr (by omega), by omega⟩
  have := nd.length_le_of_subset this
  simpa using this
/-- what stands within n names -/
def Within (n : Nat) (f : List Int) : Prop := ∀ x ∈ f, 0 ≤ x ∧ x < (n : Int)
def WithinP (n : Nat) (Q : List (Int × Int)) : Prop := ∀ p ∈ Q, (0 ≤ p.1 ∧ p.1 < (n : Int)) ∧ 0 ≤ p.2 ∧ p.2 < (n : Int)
theorem passN_within {n : Nat} {Q : List (Int × Int)} {k : Nat} {f : List Int} (hQ : WithinP n Q) (h : Within n f) : Within n (passN Q k f) := fun x hx => by
  have sh : Shut Q ((List.range n).map fun (i : Nat) => (i : Int)) := fun p hp _ => by
    obtain ⟨_, h1, h2⟩ := hQ p hp
    exact List.mem_map.mpr ⟨p.2.toNat, List.mem_range.mpr (by omega), by omega⟩
  have := passN_in sh (fun y hy => by
    obtain ⟨h1, h2⟩ := h y hy
    exact List.mem_map.mpr ⟨y.toNat, List.mem_range.mpr (by omega), by omega⟩) hx
  obtain ⟨i, hi, rfl⟩ := List.mem_map.mp this
  have := List.mem_range.mp hi
  omega
/-- as many passes as there are names: shut -/
theorem passN_full {n k : Nat} {Q : List (Int × Int)} {f : List Int} (hn : n ≤ k) (hQ : WithinP n Q) (h : Within n f) (nd : f.Nodup) : Shut Q (passN Q k f) := by
  rcases passN_shut (Q := Q) (k := k) (f := f) with z | z
  · exact z
  · have h1 := nd_len (passN_nd (Q := Q) (k := k) nd) (passN_within (k := k) hQ h)
    have e : f = [] := by
      cases f with
      | nil => rfl
      | cons x r => rw [List.length_cons] at z; omega
    subst e
    intro p hp hx
    have : ∀ {k : Nat}, passN Q k [] = [] := by
      intro k
      have p0 : ∀ Q : List (Int × Int), passF Q [] = [] := fun Q => by
        induction Q with
        | nil => rfl
        | cons q Q ih =>
          show passF Q (stepF [] q) = []
          have : stepF [] q = [] := if_neg (by simp)
          rw [this, ih]
      induction k with
      | zero => rfl
      | succ k ih => rw [passN, p0, ih]
    rw [this] at hx
    cases hx
/-- a pass in a good order and many passes come to the same names -/
theorem pass_same {n k : Nat} {Q Q' : List (Int × Int)} {f : List Int} (hp : Q.Perm Q') (hn : n ≤ k) (hQ : WithinP n Q') (h : Within n f) (nd : f.Nodup) (g1 : ∀ p ∈ Q, p.2 ≠ p.1) (g2 : List.Pairwise (fun p q => q.2 ≠ p.1) Q) : (passF Q f).Perm (passN Q' k f) := by
  refine (List.perm_ext_iff_of_nodup (pass_nd nd) (passN_nd nd)).mpr fun x => ⟨fun hx => ?_, fun hx => ?_⟩
  · exact pass_in (Q := Q) (fun q hq => passN_full hn hQ h nd q (hp.mem_iff.mp hq)) (fun y hy => passN_sub hy) hx
  · exact passN_in (Q := Q') (fun q hq => pass_shut g1 g2 q (hp.mem_iff.mpr hq)) (fun y hy => pass_sub hy) hx
end Dg

/-! Plain: lumps. -/
namespace Dg
open PySem
/-- along pairs within the names, both ways about -/
def Conn (N : List Int) (Q : List (Int × Int)) (x y : Int) : Prop := ∀ C : Int → Prop, (∀ p ∈ Q, p.1 ∈ N → p.2 ∈ N → (C p.1 ↔ C p.2)) → (C x ↔ C y)
theorem Conn.refl {N : List Int} {Q : List (Int × Int)} (x : Int) : Conn N Q x x := fun _ _ => .rfl
theorem Conn.symm {N : List Int} {Q : List (Int × Int)} {x y : Int} (h : Conn N Q x y) : Conn N Q y x := fun C hC => (h C hC).symm
theorem Conn.trans {N : List Int} {Q : List (Int × Int)} {x y z : Int} (h : Conn N Q x y) (h2 : Conn N Q y z) : Conn N Q x z := fun C hC => (h C hC).trans (h2 C hC)
theorem Conn.edge {N : List Int} {Q : List (Int × Int)} {p : Int × Int} (hp : p ∈ Q) (h1 : p.1 ∈ N) (h2 : p.2 ∈ N) : Conn N Q p.1 p.2 := fun C hC => hC p hp h1 h2
theorem Conn.inN {N : List Int} {Q : List (Int × Int)} {x y : Int} (h : Conn N Q x y) (hx : x ∈ N) : y ∈ N := (h (· ∈ N) fun p _ h1 h2 => ⟨fun _ => h2, fun _ => h1⟩).mp hx
abbrev Up (l : List Int) : Prop := List.Pairwise (fun a b : Int => a < b) l
theorem up_nd {l : List Int} (h : Up l) : l.Nodup := h.imp fun h => by omega
theorem up_eq {l m : List Int} (hl : Up l) (hm : Up m) (h : ∀ x, x ∈ l ↔ x ∈ m) : l = m :=
  List.Perm.eq_of_pairwise (le := fun a b : Int => a ≤ b) (fun a b _ _ h1 h2 => by omega) (hl.imp fun h => by omega) (hm.imp fun h => by omega) ((List.perm_ext_iff_of_nodup (up_nd hl) (up_nd hm)).mpr h)
theorem sort_up {l : List Int} (h : l.Nodup) : Up (l.mergeSort leZ) := by
  have h1 := leZ_pw l
  have h2 : (l.mergeSort leZ).Nodup := (List.mergeSort_perm l leZ).nodup_iff.mpr h
  refine (List.pairwise_and_iff.mpr ⟨h1, h2⟩).imp fun {a b} h => ?_
  obtain ⟨h3, h4⟩ := h
  unfold leZ at h3
  have := of_decide_eq_true h3
  have : a ≠ b := h4
  omega
def hereF (F : List (List Int)) (x : Int) : List Int := (F.filter fun L => decide (x ∈ L)).headD []
def lumpStep (N : List Int) (F : List (List Int)) (p : Int × Int) : List (List Int) :=
  if p.1 ∈ N ∧ p.2 ∈ N then
    if hereF F p.1 = hereF F p.2 then F else (F.filter fun L => !decide (L = hereF F p.1 ∨ L = hereF F p.2)) ++ [(hereF F p.1 ++ hereF F p.2).mergeSort leZ]
  else F
structure LI (N : List Int) (Q : List (Int × Int)) (F : List (List Int)) (done : List (Int × Int)) : Prop where
  srt : ∀ L ∈ F, Up L
  ne : ∀ L ∈ F, L ≠ []
  cov : ∀ x ∈ N, ∃ L ∈ F, x ∈ L
  sub : ∀ L ∈ F, ∀ x ∈ L, x ∈ N
  dis : ∀ L ∈ F, ∀ M ∈ F, ∀ x, x ∈ L → x ∈ M → L = M
  nd : F.Nodup
  con : ∀ L ∈ F, ∀ x ∈ L, ∀ y ∈ L, Conn N Q x y
  dn : ∀ p ∈ done, p.1 ∈ N → p.2 ∈ N → ∃ L ∈ F, p.1 ∈ L ∧ p.2 ∈ L
theorem here_ok {N : List Int} {Q : List (Int × Int)} {F : List (List Int)} {d : List (Int × Int)} (I : LI N Q F d) {x : Int} (hx : x ∈ N) : hereF F x ∈ F ∧ x ∈ hereF F x ∧ ∃ r, F.filter (fun L => decide (x ∈ L)) = hereF F x :: r := by
  obtain ⟨L, hL, hxL⟩ := I.cov x hx
  have hm : L ∈ F.filter fun L => decide (x ∈ L) := List.mem_filter.mpr ⟨hL, decide_eq_true hxL⟩
  cases e : F.filter fun L => decide (x ∈ L) with
  | nil => rw [e] at hm; cases hm
  | cons M r =>
    have e1 : hereF F x = M := by unfold hereF; rw [e]; rfl
    have hM : M ∈ F.filter fun L => decide (x ∈ L) := by rw [e]; exact List.mem_cons_self
    obtain ⟨h1, h2⟩ := List.mem_filter.mp hM
    rw [e1]
    exact ⟨h1, of_decide_eq_true h2, r, rfl⟩
theorem li_start {N : List Int} {Q : List (Int × Int)} (hN : N.Nodup) : LI N Q (N.map fun x => [x]) [] where
  srt := fun L hL => by obtain ⟨x, _, rfl⟩ := List.mem_map.mp hL; exact List.pairwise_singleton _ _
  ne := fun L hL => by obtain ⟨x, _, rfl⟩ := List.mem_map.mp hL; exact fun h => by cases h
  cov := fun x hx => ⟨[x], List.mem_map_of_mem hx, List.mem_singleton.mpr rfl⟩
  sub := fun L hL y hy => by obtain ⟨x, hx, rfl⟩ := List.mem_map.mp hL; rw [List.mem_singleton.mp hy]; exact hx
  dis := fun L hL M hM y h1 h2 => by
    obtain ⟨x, hx, rfl⟩ := List.mem_map.mp hL
    obtain ⟨z, hz, rfl⟩ := List.mem_map.mp hM
    rw [← List.mem_singleton.mp h1, ← List.mem_singleton.mp h2]
  nd := by
    refine List.Pairwise.map _ (fun a b h => ?_) hN
    intro e
    injection e with e
    exact h e
  con := fun L hL x hx y hy => by
    obtain ⟨z, _, rfl⟩ := List.mem_map.mp hL
    rw [List.mem_singleton.mp hx, List.mem_singleton.mp hy]
    exact .refl z
  dn := fun p hp => by cases hp
theorem li_step {N : List Int} {Q : List (Int × Int)} {F : List (List Int)} {d : List (Int × Int)} {p : Int × Int} (I : LI N Q F d) (hp : p ∈ Q) : LI N Q (lumpStep N F p) (d ++ [p]) := by
  unfold lumpStep
  by_cases hc : p.1 ∈ N ∧ p.2 ∈ N
  · rw [if_pos hc]
    obtain ⟨a1, a2, _⟩ := here_ok I hc.1
    obtain ⟨b1, b2, _⟩ := here_ok I hc.2
    generalize hereF F p.1 = A at *
    generalize hereF F p.2 = B at *
    by_cases e : A = B
    · rw [if_pos e]
      refine { I with dn := fun q hq h1 h2 => ?_ }
      rcases List.mem_append.mp hq with hq | hq
      · exact I.dn q hq h1 h2
      · rw [List.mem_singleton.mp hq]
        exact ⟨A, a1, a2, by rw [e]; exact b2⟩
    · rw [if_neg e]
      have mem : ∀ L, L ∈ (F.filter fun L => !decide (L = A ∨ L = B)) ++ [(A ++ B).mergeSort leZ] ↔ (L ∈ F ∧ L ≠ A ∧ L ≠ B) ∨ L = (A ++ B).mergeSort leZ := fun L => by
        rw [List.mem_append, List.mem_filter, List.mem_singleton]
        constructor
        · rintro (⟨h1, h2⟩ | h)
          · refine .inl ⟨h1, ?_⟩
            simp only [Bool.not_eq_true', decide_eq_false_iff_not] at h2
            exact ⟨fun z => h2 (.inl z), fun z => h2 (.inr z)⟩
          · exact .inr h
        · rintro (⟨h1, h2, h3⟩ | h)
          · refine .inl ⟨h1, ?_⟩
            simp only [Bool.not_eq_true', decide_eq_false_iff_not]
            rintro (z | z)
            · exact h2 z
            · exact h3 z
          · exact .inr h
      have mm : ∀ x, x ∈ (A ++ B).mergeSort leZ ↔ x ∈ A ∨ x ∈ B := fun x => by rw [List.mem_mergeSort, List.mem_append]
      have ndAB : (A ++ B).Nodup := by
        rw [List.nodup_append]
        exact ⟨up_nd (I.srt A a1), up_nd (I.srt B b1), fun x hx y hy z => e (I.dis A a1 B b1 x hx (by rw [z]; exact hy))⟩
      have cA : ∀ x ∈ (A ++ B).mergeSort leZ, Conn N Q x p.1 := fun x hx => by
        rcases (mm x).mp hx with hx | hx
        · exact I.con A a1 x hx p.1 a2
        · exact (I.con B b1 x hx p.2 b2).trans (Conn.edge hp hc.1 hc.2).symm
      have out : ∀ L ∈ F, L ≠ A → L ≠ B → ∀ x, x ∈ L → x ∈ (A ++ B).mergeSort leZ → False := fun L hL n1 n2 x h1 h2 => by
        rcases (mm x).mp h2 with h2 | h2
        · exact n1 (I.dis L hL A a1 x h1 h2)
        · exact n2 (I.dis L hL B b1 x h1 h2)
      exact {
        srt := fun L hL => by
          rcases (mem L).mp hL with ⟨h1, _, _⟩ | rfl
          · exact I.srt L h1
          · exact sort_up ndAB
        ne := fun L hL => by
          rcases (mem L).mp hL with ⟨h1, _, _⟩ | rfl
          · exact I.ne L h1
          · exact List.ne_nil_of_mem ((mm p.1).mpr (.inl a2))
        cov := fun x hx => by
          obtain ⟨L, h1, h2⟩ := I.cov x hx
          by_cases eA : L = A
          · exact ⟨_, (mem _).mpr (.inr rfl), (mm x).mpr (.inl (by rw [← eA]; exact h2))⟩
          · by_cases eB : L = B
            · exact ⟨_, (mem _).mpr (.inr rfl), (mm x).mpr (.inr (by rw [← eB]; exact h2))⟩
            · exact ⟨L, (mem L).mpr (.inl ⟨h1, eA, eB⟩), h2⟩
        sub := fun L hL x hx => by
          rcases (mem L).mp hL with ⟨h1, _, _⟩ | rfl
          · exact I.sub L h1 x hx
          · rcases (mm x).mp hx with hx | hx
            · exact I.sub A a1 x hx
            · exact I.sub B b1 x hx
        dis := fun L hL M hM x h1 h2 => by
          rcases (mem L).mp hL with ⟨l1, l2, l3⟩ | rfl
          · rcases (mem M).mp hM with ⟨m1, _, _⟩ | rfl
            · exact I.dis L l1 M m1 x h1 h2
            · exact (out L l1 l2 l3 x h1 h2).elim
          · rcases (mem M).mp hM with ⟨m1, m2, m3⟩ | rfl
            · exact (out M m1 m2 m3 x h2 h1).elim
            · rfl
        nd := by
          rw [List.nodup_append]
          refine ⟨I.nd.filter _, by simp, fun L hL M hM z => ?_⟩
          rw [List.mem_singleton] at hM
          have h3 := (List.mem_filter.mp hL)
          have h4 : L ≠ A ∧ L ≠ B := by
            have := h3.2
            simp only [Bool.not_eq_true', decide_eq_false_iff_not] at this
            exact ⟨fun z => this (.inl z), fun z => this (.inr z)⟩
          exact out L h3.1 h4.1 h4.2 p.1 (by rw [z, hM]; exact (mm p.1).mpr (.inl a2)) ((mm p.1).mpr (.inl a2))
        con := fun L hL x hx y hy => by
          rcases (mem L).mp hL with ⟨h1, _, _⟩ | rfl
          · exact I.con L h1 x hx y hy
          · exact (cA x hx).trans (cA y hy).symm
        dn := fun q hq h1 h2 => by
          rcases List.mem_append.mp hq with hq | hq
          · obtain ⟨L, l1, l2, l3⟩ := I.dn q hq h1 h2
            by_cases eA : L = A
            · exact ⟨_, (mem _).mpr (.inr rfl), (mm _).mpr (.inl (by rw [← eA]; exact l2)), (mm _).mpr (.inl (by rw [← eA]; exact l3))⟩
            · by_cases eB : L = B
              · exact ⟨_, (mem _).mpr (.inr rfl), (mm _).mpr (.inr (by rw [← eB]; exact l2)), (mm _).mpr (.inr (by rw [← eB]; exact l3))⟩
              · exact ⟨L, (mem L).mpr (.inl ⟨l1, eA, eB⟩), l2, l3⟩
          · rw [List.mem_singleton.mp hq]
            exact ⟨_, (mem _).mpr (.inr rfl), (mm _).mpr (.inl a2), (mm _).mpr (.inr b2)⟩ }
  · rw [if_neg hc]
    refine { I with dn := fun q hq h1 h2 => ?_ }
    rcases List.mem_append.mp hq with hq | hq
    · exact I.dn q hq h1 h2
    · rw [List.mem_singleton.mp hq] at h1 h2
      exact absurd ⟨h1, h2⟩ hc
theorem li_fold {N : List Int} {Q : List (Int × Int)} : ∀ {l : List (Int × Int)} {F : List (List Int)} {d : List (Int × Int)}, LI N Q F d → (∀ p ∈ l, p ∈ Q) → LI N Q (l.foldl (lumpStep N) F) (d ++ l)
  | [], F, d, I, _ => by rw [List.append_nil]; exact I
  | p :: l, F, d, I, h => by
    have I2 := li_fold (l := l) (li_step I (h p List.mem_cons_self)) fun q hq => h q (List.mem_cons_of_mem _ hq)
    rw [List.append_assoc] at I2
    exact I2
theorem li_mem {N : List Int} {Q : List (Int × Int)} {F : List (List Int)} {d : List (Int × Int)} (I : LI N Q F d) (hd : ∀ p ∈ Q, p ∈ d) {L : List Int} (hL : L ∈ F) {x : Int} (hx : x ∈ L) (y : Int) : y ∈ L ↔ Conn N Q x y := by
  refine ⟨fun hy => I.con L hL x hx y hy, fun h => (h (· ∈ L) fun p hp h1 h2 => ?_).mp hx⟩
  obtain ⟨M, m1, m2, m3⟩ := I.dn p (hd p hp) h1 h2
  exact ⟨fun z => by rw [I.dis L hL M m1 _ z m2]; exact m3, fun z => by rw [I.dis L hL M m1 _ z m3]; exact m2⟩
theorem fold_lump_len (N : List Int) : ∀ (l : List (Int × Int)) (F : List (List Int)), (l.foldl (lumpStep N) F).length ≤ F.length + l.length
  | [], F => Nat.le_refl _
  | p :: l, F => by
    have h2 := fold_lump_len N l (lumpStep N F p)
    have h1 : (lumpStep N F p).length ≤ F.length + 1 := by
      unfold lumpStep
      split
      · split
        · omega
        · rw [List.length_append]
          have := List.length_filter_le (fun L => !decide (L = hereF F p.1 ∨ L = hereF F p.2)) F
          show _ + 1 ≤ _
          omega
      · omega
    rw [List.foldl_cons, List.length_cons]
    omega
/-! ### one name's lump, from the least one left on -/
theorem step_pred {C : Int → Prop} {f : List Int} {p : Int × Int} (hp : C p.1 → C p.2) (h : ∀ y ∈ f, C y) : ∀ y ∈ stepF f p, C y := fun y hy => by
  rcases step_in hy with hy | ⟨h1, rfl⟩
  · exact h y hy
  · exact hp (h _ h1)
theorem pass_pred {C : Int → Prop} : ∀ {Q : List (Int × Int)} {f : List Int}, (∀ p ∈ Q, C p.1 → C p.2) → (∀ y ∈ f, C y) → ∀ y ∈ passF Q f, C y
  | [], _, _, h => h
  | p :: Q, f, hQ, h => pass_pred (Q := Q) (fun q hq => hQ q (List.mem_cons_of_mem _ hq)) (step_pred (hQ p List.mem_cons_self) h)
theorem passN_pred {C : Int → Prop} {Q : List (Int × Int)} (hQ : ∀ p ∈ Q, C p.1 → C p.2) : ∀ {k : Nat} {f : List Int}, (∀ y ∈ f, C y) → ∀ y ∈ passN Q k f, C y
  | 0, _, h => h
  | k + 1, f, h => passN_pred hQ (k := k) (pass_pred hQ h)
abbrev inN (N : List Int) (p : Int × Int) : Bool := decide (p.1 ∈ N) && decide (p.2 ∈ N)
/-- the pairs within, both ways about -/
def bothQ (N : List Int) (Q : List (Int × Int)) : List (Int × Int) := Q.filter (inN N) ++ (Q.filter (inN N)).map fun p => (p.2, p.1)
def lumpOf (N : List Int) (Q : List (Int × Int)) (x : Int) : List Int := (passN (bothQ N Q) 6 [x]).mergeSort leZ
theorem both_mem {N : List Int} {Q : List (Int × Int)} {p : Int × Int} : p ∈ bothQ N Q ↔ (p.1 ∈ N ∧ p.2 ∈ N) ∧ (p ∈ Q ∨ (p.2, p.1) ∈ Q) := by
  unfold bothQ
  rw [List.mem_append, List.mem_filter, List.mem_map]
  constructor
  · rintro (⟨h1, h2⟩ | ⟨q, h1, rfl⟩)
    · have := Bool.and_eq_true_iff.mp h2
      exact ⟨⟨of_decide_eq_true this.1, of_decide_eq_true this.2⟩, .inl h1⟩
    · obtain ⟨h1, h2⟩ := List.mem_filter.mp h1
      have := Bool.and_eq_true_iff.mp h2
      exact ⟨⟨of_decide_eq_true this.2, of_decide_eq_true this.1⟩, .inr h1⟩
  · rintro ⟨⟨h1, h2⟩, h | h⟩
    · exact .inl ⟨h, Bool.and_eq_true_iff.mpr ⟨decide_eq_true h1, decide_eq_true h2⟩⟩
    · exact .inr ⟨_, List.mem_filter.mpr ⟨h, Bool.and_eq_true_iff.mpr ⟨decide_eq_true h2, decide_eq_true h1⟩⟩, rfl⟩
theorem lump_mem {n : Nat} {N : List Int} {Q : List (Int × Int)} (hn : n ≤ 6) (hN : Within n N) {x : Int} (hx : x ∈ N) (y : Int) : y ∈ lumpOf N Q x ↔ Conn N Q x y := by
  unfold lumpOf
  rw [List.mem_mergeSort]
  have w : Within n [x] := fun z hz => by rw [List.mem_singleton.mp hz]; exact hN x hx
  have wp : WithinP n (bothQ N Q) := fun p hp => by
    obtain ⟨⟨h1, h2⟩, _⟩ := both_mem.mp hp
    exact ⟨hN _ h1, hN _ h2⟩
  have sh := passN_full (k := 6) hn wp w (by simp)
  constructor
  · intro hy
    refine passN_pred (C := fun y => Conn N Q x y) (fun p hp hc => ?_) (fun z hz => by rw [List.mem_singleton.mp hz]; exact .refl x) y hy
    obtain ⟨⟨h1, h2⟩, h3 | h3⟩ := both_mem.mp hp
    · exact hc.trans (Conn.edge h3 h1 h2)
    · exact hc.trans (Conn.edge h3 h2 h1).symm
  · intro h
    refine (h (· ∈ passN (bothQ N Q) 6 [x]) fun p hp h1 h2 => ⟨fun z => ?_, fun z => ?_⟩).mp (passN_sub (List.mem_singleton.mpr rfl))
    · exact sh p (both_mem.mpr ⟨⟨h1, h2⟩, .inl hp⟩) z
    · exact sh (p.2, p.1) (both_mem.mpr ⟨⟨h2, h1⟩, .inr hp⟩) z
theorem lump_up {N : List Int} {Q : List (Int × Int)} {x : Int} : Up (lumpOf N Q x) := sort_up (passN_nd (by simp))
def lawL (N : List Int) (Q : List (Int × Int)) : Nat → List Int → List (List Int)
  | 0, _ => []
  | _ + 1, [] => []
  | m + 1, x :: r => lumpOf N Q x :: lawL N Q m ((x :: r).filter fun y => !decide (y ∈ lumpOf N Q x))
theorem lawL_ok {n : Nat} {N : List Int} {Q : List (Int × Int)} (hn : n ≤ 6) (hN : Within n N) : ∀ (m : Nat) (l : List Int), l.length ≤ m → Up l → (∀ x ∈ l, x ∈ N) → (∀ x ∈ l, ∀ y, Conn N Q x y → y ∈ l) →
    (∀ x ∈ l, ∃ L ∈ lawL N Q m l, x ∈ L) ∧ (∀ L ∈ lawL N Q m l, ∃ x r, L = x :: r ∧ x ∈ l ∧ L = lumpOf N Q x) ∧ List.Pairwise (fun A B : List Int => ∃ a b r s, A = a :: r ∧ B = b :: s ∧ a < b) (lawL N Q m l)
  | 0, [], _, _, _, _ => ⟨(fun x hx => by cases hx), (fun L hL => by unfold lawL at hL; cases hL), (by unfold lawL; exact .nil)⟩
  | 0, _ :: _, h, _, _, _ => by simp at h
  | m + 1, [], _, _, _, _ => ⟨(fun x hx => by cases hx), (fun L hL => by unfold lawL at hL; cases hL), (by unfold lawL; exact .nil)⟩
  | m + 1, x :: r, hl, up, hs, hc => by
    have hx : x ∈ N := hs x List.mem_cons_self
    have mem := lump_mem (Q := Q) hn hN hx
    have xL : x ∈ lumpOf N Q x := (mem x).mpr (.refl x)
    obtain ⟨u1, u2⟩ := List.pairwise_cons.mp up
    have head : ∃ s, lumpOf N Q x = x :: s := by
      have upL := lump_up (N := N) (Q := Q) (x := x)
      cases e : lumpOf N Q x with
      | nil => rw [e] at xL; cases xL
      | cons a s =>
        rw [e] at upL xL
        have ha : a ∈ x :: r := hc x List.mem_cons_self a ((mem a).mp (by rw [e]; exact List.mem_cons_self))
        rcases List.mem_cons.mp xL with h | h
        · exact ⟨s, by rw [h]⟩
        · have h1 := (List.pairwise_cons.mp upL).1 x h
          rcases List.mem_cons.mp ha with h2 | h2
          · omega
          · have := u1 a h2
            omega
    obtain ⟨s, hs'⟩ := head
    have fm : ∀ y, y ∈ (x :: r).filter (fun y => !decide (y ∈ lumpOf N Q x)) ↔ y ∈ x :: r ∧ y ∉ lumpOf N Q x := fun y => by
      rw [List.mem_filter]
      simp only [Bool.not_eq_true', decide_eq_false_iff_not]
    have len : ((x :: r).filter fun y => !decide (y ∈ lumpOf N Q x)).length ≤ m := by
      rw [List.filter_cons, if_neg (by rw [decide_eq_true xL]; exact Bool.false_ne_true)]
      have := List.length_filter_le (fun y => !decide (y ∈ lumpOf N Q x)) r
      rw [List.length_cons] at hl
      omega
    obtain ⟨i1, i2, i3⟩ := lawL_ok hn hN m _ len (up.filter _) (fun y hy => hs y ((fm y).mp hy).1) fun y hy z hz => by
      obtain ⟨h1, h2⟩ := (fm y).mp hy
      refine (fm z).mpr ⟨hc y h1 z hz, fun h3 => h2 ((mem y).mpr (((mem z).mp h3).trans hz.symm))⟩
    unfold lawL
    refine ⟨fun y hy => ?_, fun L hL => ?_, List.pairwise_cons.mpr ⟨fun B hB => ?_, i3⟩⟩
    · by_cases h : y ∈ lumpOf N Q x
      · exact ⟨_, List.mem_cons_self, h⟩
      · obtain ⟨L, h1, h2⟩ := i1 y ((fm y).mpr ⟨hy, h⟩)
        exact ⟨L, List.mem_cons_of_mem _ h1, h2⟩
    · rcases List.mem_cons.mp hL with rfl | hL
      · exact ⟨x, s, hs', List.mem_cons_self, rfl⟩
      · obtain ⟨a, t, h1, h2, h3⟩ := i2 L hL
        exact ⟨a, t, h1, ((fm a).mp h2).1, h3⟩
    · obtain ⟨a, t, h1, h2, h3⟩ := i2 B hB
      refine ⟨x, a, s, t, hs', h1, ?_⟩
      obtain ⟨h4, h5⟩ := (fm a).mp h2
      rcases List.mem_cons.mp h4 with h6 | h6
      · rw [h6] at h5; exact absurd xL h5
      · exact u1 a h6
/-- both come to the same lumps, in the same order -/
theorem lumps_same {n : Nat} {N : List Int} {Q Q' : List (Int × Int)} (hn : n ≤ 6) (hN : Within n N) (up : Up N) (hQ : Q'.Perm Q) {F : List (List Int)} (I : LI N Q' F Q') : F.mergeSort leI = lawL N Q N.length N := by
  have cq : ∀ x y, Conn N Q' x y ↔ Conn N Q x y := fun x y => ⟨fun h C hC => h C fun p hp => hC p (hQ.mem_iff.mp hp), fun h C hC => h C fun p hp => hC p (hQ.mem_iff.mpr hp)⟩
  obtain ⟨g1, g2, g3⟩ := lawL_ok (Q := Q) hn hN N.length N (Nat.le_refl _) up (fun _ h => h) fun x hx y h => h.inN hx
  have ndG : (lawL N Q N.length N).Nodup := g3.imp fun {A B} ⟨a, b, r, s, h1, h2, h3⟩ e => by
    rw [h1, h2] at e
    injection e with e
    omega
  have fm := fun {L : List Int} (hL : L ∈ F) {x : Int} (hx : x ∈ L) (y : Int) => li_mem I (fun p hp => hp) hL hx y
  have key : ∀ L ∈ F, ∀ M ∈ lawL N Q N.length N, ∀ x, x ∈ L → x ∈ M → L = M := fun L hL M hM x h1 h2 => by
    obtain ⟨a, r, e1, e2, e3⟩ := g2 M hM
    have mem := lump_mem (Q := Q) hn hN e2
    refine up_eq (I.srt L hL) (by rw [e3]; exact lump_up) fun y => ?_
    rw [fm hL h1 y, cq, e3, mem y]
    have ax : Conn N Q a x := (mem x).mp (by rw [← e3]; exact h2)
    exact ⟨fun h => ax.trans h, fun h => ax.symm.trans h⟩
  have perm : F.Perm (lawL N Q N.length N) := (List.perm_ext_iff_of_nodup I.nd ndG).mpr fun L => by
    constructor
    · intro hL
      obtain ⟨x, r, rfl⟩ : ∃ x r, L = x :: r := by
        cases L with
        | nil => exact absurd rfl (I.ne [] hL)
        | cons x r => exact ⟨x, r, rfl⟩
      obtain ⟨M, hM, hx⟩ := g1 x (I.sub _ hL x List.mem_cons_self)
      rw [key _ hL M hM x List.mem_cons_self hx]
      exact hM
    · intro hM
      obtain ⟨a, r, e1, e2, e3⟩ := g2 L hM
      obtain ⟨M, hM2, hx⟩ := I.cov a e2
      rw [← key M hM2 L hM a hx (by rw [e1]; exact List.mem_cons_self)]
      exact hM2
  refine List.Perm.eq_of_pairwise (fun a b _ _ h1 h2 => leI_anti h1 h2) (leI_pw F) (g3.imp fun {A B} ⟨a, b, r, s, h1, h2, h3⟩ => ?_) ((List.mergeSort_perm F leI).trans perm)
  rw [h1, h2, leI, decide_eq_true h3]
  rfl
end Dg

/-! Plain: pairs, sets of names, loops that many defs share. -/
namespace Dg
open PySem
/-! ### tactics -/
/-- an operator on plain data -/
local macro_rules | `(tactic| walk_at "dop") => `(tactic| ((try dsimp only [Sv.toD]); first
  | (with_reducible assumption)
  | ((with_reducible refine Eq.trans (by assumption) ?_); rfl)
  | ((with_reducible show index _ _ = _); rfl)
  | exact b_add _ _ | exact b_sub _ _
  | exact len_int _ | exact len_intT _ | exact bc_sortI _ | exact bc_sortIT _
  | exact c_eq_td _ _ | exact c_ne_td _ _ | exact in_tds _ _ | exact in_tdsT _ _ | exact nin_tds _ _ | exact nin_tdsT _ _
  | exact in_ints _ _ | exact nin_ints _ _ | exact in_intsT _ _ | exact nin_intsT _ _
  | exact b_modp _ _ (by first | decide | omega)
  | exact b_fdivp _ _ (by first | decide | omega) (by first | decide | omega)
  | exact b_shr _ _ (by first | decide | omega)
  | exact b_mul _ _ (mul_small _ _ (by first | decide | omega))
  | exact b_mul _ _ (mul_smallL _ _ (by first | decide | omega))
  | exact c_eq _ _ | exact c_ne _ _ | exact c_lt _ _ | exact c_le _ _ | exact c_gt _ _ | exact c_ge _ _ | exact c_eqb _ _ | exact c_neb _ _
  | exact mut_app (by first | assumption | (simp only [List.length_map, List.length_append, List.length_cons, List.length_nil] <;> unfold LIM <;> omega))
  | exact b_addl (by first | assumption | (simp only [List.length_map, List.length_append, List.length_cons, List.length_nil] <;> unfold LIM <;> omega))
  | exact b_addt (by first | assumption | (simp only [List.length_map, List.length_append, List.length_cons, List.length_nil] <;> unfold LIM <;> omega))
  | rfl))
/-- the worth of an expression in a frame that is told -/
local macro_rules | `(tactic| walk_at "ev") => `(tactic| first
  | (with_reducible assumption)
  | ((with_reducible apply ev_cstE); rfl)
  | ((with_reducible apply ev_var); (first | rfl | assumption); rfl)
  | ((with_reducible apply ev_bin); walk_at "ev"; walk_at "ev"; walk_at "dop")
  | ((with_reducible apply ev_cmp); walk_at "ev"; walk_at "ev"; walk_at "dop")
  | ((with_reducible apply ev_orD); walk_at "ev"; (intro _; walk_at "ev"))
  | ((with_reducible apply ev_andD); walk_at "ev"; (intro _; walk_at "ev"))
  | ((with_reducible apply ev_cmp2); walk_at "ev"; walk_at "ev"; walk_at "dop"; (intro _; refine ⟨?_, ?_⟩; walk_at "ev"; walk_at "dop"))
  | ((with_reducible apply ev_not); walk_at "ev")
  | ((with_reducible apply ev_neg); walk_at "ev")
  | ((with_reducible apply ev_tup); walk_at "evs")
  | ((with_reducible apply ev_lst); walk_at "evs")
  | ((with_reducible apply ev_idx); walk_at "ev"; walk_at "ev"; walk_at "dop")
  | ((with_reducible apply ev_fld); walk_at "ev"; walk_at "dop")
  | ((with_reducible apply ev_isty); walk_at "ev"; walk_at "dop")
  | ((with_reducible apply ev_slc); walk_at "ev"; walk_at "eo"; walk_at "eo"; walk_at "dop")
  | ((with_reducible apply ev_bc); walk_at "ebs"; walk_at "dop")
  | ((with_reducible apply ev_callI); walk_at "evs"; (first | (with_reducible assumption) | walk_at "dop"))
  | ((with_reducible apply ev_callB); walk_at "ebs"; (first | (with_reducible assumption) | walk_at "dop"); rfl)
  | ((with_reducible apply ev_make); walk_at "evs"; (first | (with_reducible assumption) | walk_at "dop"))
  | ((with_reducible apply ev_meth); walk_at "ev"; walk_at "evs"; (first | (with_reducible assumption) | walk_at "dop")))
local macro_rules | `(tactic| walk_at "evs") => `(tactic| first
  | (with_reducible exact es_nil)
  | ((with_reducible apply es_cons); walk_at "ev"; rfl; walk_at "evs"))
local macro_rules | `(tactic| walk_at "ebs") => `(tactic| first
  | (with_reducible exact bs_nil)
  | ((with_reducible apply bs_cons); walk_at "ev"; walk_at "ebs"))
local macro_rules | `(tactic| walk_at "eo") => `(tactic| first
  | (with_reducible exact eo_non)
  | ((with_reducible apply eo_som); walk_at "ev"; rfl))
/-- frames laid flat -/
local macro_rules | `(tactic| walk_at "nrm") => `(tactic| dsimp only [frz, slot, List.set_cons_zero, List.set_cons_succ, Sv.toD])
/-- one statement -/
local macro_rules | `(tactic| walk_at "stp") => `(tactic| first
  | ((with_reducible apply nx_asg); (try dsimp only [frz]); walk_at "ev"; rfl; try walk_at "nrm")
  | ((with_reducible apply nx_par); (try dsimp only [frz]); walk_at "evs"; try walk_at "nrm")
  | ((with_reducible apply nx_aug); rfl; (try dsimp only [frz]); walk_at "ev"; try walk_at "nrm")
  | ((with_reducible apply nx_mut); rfl; (try dsimp only [frz]); walk_at "evs"; walk_at "dop"; try walk_at "nrm")
  | ((with_reducible apply nx_expr); (try dsimp only [frz]); walk_at "ev"; try walk_at "nrm")
  | ((with_reducible apply nx_setf); (try dsimp only [frz]); walk_at "ev"; rfl; rfl; decide; try walk_at "nrm")
  | ((with_reducible apply nx_pass); try walk_at "nrm"))

abbrev gI (ns : List Int) (k : Nat) : Int := ns[k]?.getD 0
def isSetB (c : Int) (ns : List Int) : Bool := (List.range ns.length).all fun k => !(decide (gI ns k < 0) || (decide (c ≤ gI ns k) || (decide (0 < (k : Int)) && decide (gI ns k ≤ gI ns (k - 1)))))
theorem ixt_gI {ns : List Int} {k : Nat} (h : k < ns.length) : index (td ns) (.int (k : Int)) = .ok (.int (gI ns k)) := by
  have := ixt_int h
  unfold gI
  rw [List.getElem?_eq_getElem h]
  exact this
theorem step_le (f : List Int) (p : Int × Int) : (stepF f p).length ≤ f.length + 1 := by
  unfold stepF
  split
  · rw [List.length_append]; exact Nat.le_refl _
  · omega
theorem fold_len : ∀ (l : List (Int × Int)) (f : List Int), (l.foldl stepF f).length ≤ f.length + l.length
  | [], f => Nat.le_refl _
  | p :: l, f => by
    have h1 := step_le f p
    have h2 := fold_len l (stepF f p)
    rw [List.foldl_cons, List.length_cons]
    omega
abbrev bodyF : Blk := (.cons (.ite [] (.and (.cmp .In (.var 3) (.var 2)) (.cmp .NotIn (.var 4) (.var 2))) (.cons (.mut [] .append 2 (.cons (.var 4) .nil)) .nil) .nil) .nil)
theorem loopF (cl : Cl) (s0 s1 : Option Sv) (Q : List (Int × Int)) (f : List Int) (j : Option Sv × Option Sv) (hl : f.length + Q.length ≤ 100000) :
    ∃ j' : Option Sv × Option Sv, forI (.tp [3, 4]) (execB cl bodyF) (Q.map tp) [s0, s1, some (.l1 (f.map Dv.int)), j.1, j.2] = .nx [s0, s1, some (.l1 ((passF Q f).map Dv.int)), j'.1, j'.2] :=
  for_fold tp (fun (s : List Int) (j : Option Sv × Option Sv) => ([s0, s1, some (.l1 (s.map Dv.int)), j.1, j.2] : Env)) stepF Q f j fun l a r j e => by
    have h1 := fold_len l f
    have h2 : Q.length = l.length + (r.length + 1) := by rw [e, List.length_append, List.length_cons]
    generalize l.foldl stepF f = s at h1
    refine ⟨[s0, s1, some (.l1 (s.map Dv.int)), some (.sh (.int a.1)), some (.sh (.int a.2))], (some (.sh (.int a.1)), some (.sh (.int a.2))), rfl, ?_⟩
    have hl : s.length < LIM := by unfold LIM; omega
    refine nx_ite (k := decide (a.1 ∈ s) && !decide (a.2 ∈ s)) (e1 := [s0, s1, some (.l1 ((stepF s a).map Dv.int)), some (.sh (.int a.1)), some (.sh (.int a.2))]) ?_ (fun h => ?_) (fun h => ?_) blk_nil
    · walk_at "ev"
    · have hc : a.1 ∈ s ∧ a.2 ∉ s := by simpa using h
      have e1 : stepF s a = s ++ [a.2] := if_pos hc
      rw [e1, List.map_append]
      walk_at "stp"
      exact blk_nil
    · have hc : ¬ (a.1 ∈ s ∧ a.2 ∉ s) := by simpa using h
      have e1 : stepF s a = s := if_neg hc
      rw [e1]
      exact blk_nil
abbrev drP (c : Int) (Q : List (Int × Int)) (y : Dv) : Dv := .obj 43 [(0, .int c), (1, .tup (Q.map tp)), (2, y)]

abbrev swp (p : Int × Int) : Int × Int := (p.2, p.1)
def leP (p q : Int × Int) : Bool := leI (pr p) (pr q)
theorem sort_pr (Q : List (Int × Int)) : (Q.map pr).mergeSort leI = (Q.mergeSort leP).map pr := (List.map_mergeSort (r := leP) (s := leI) (f := pr) (l := Q) fun a _ b _ => rfl).symm
theorem map_tp (Q : List (Int × Int)) : Q.map tp = (Q.map pr).map td := by rw [List.map_map]; rfl
theorem bc_sortP (Q : List (Int × Int)) : bcall .sorted [.lst (Q.map tp)] = .ok (.l1 ((Q.mergeSort leP).map tp)) := by
  rw [map_tp, bc_sortT (fun r hr => by obtain ⟨p, _, rfl⟩ := List.mem_map.mp hr; exact fun h => by cases h), sort_pr, ← map_tp]
abbrev sw (b : Bool) (p : Int × Int) : Int × Int := if b then swp p else p
abbrev bodyU : Blk := (.cons (.ite [] (.and (.not (.var 2)) (.and (.cmp .In (.var 5) (.var 3)) (.cmp .NotIn (.var 6) (.var 3)))) (.cons (.mut [] .append 3 (.cons (.var 6) .nil)) .nil) .nil) (.cons (.ite [] (.and (.var 2) (.and (.cmp .In (.var 6) (.var 3)) (.cmp .NotIn (.var 5) (.var 3)))) (.cons (.mut [] .append 3 (.cons (.var 5) .nil)) .nil) .nil) .nil))
theorem pass_map (b : Bool) : ∀ (Q : List (Int × Int)) (f : List Int), Q.foldl (fun s p => stepF s (sw b p)) f = passF (Q.map (sw b)) f
  | [], _ => rfl
  | p :: Q, f => pass_map b Q (stepF f (sw b p))
theorem loopU (cl : Cl) (s0 s1 s4 : Option Sv) (b : Bool) (Q : List (Int × Int)) (f : List Int) (j : Option Sv × Option Sv) (hl : f.length + Q.length ≤ 1000000) :
    ∃ j' : Option Sv × Option Sv, forI (.tp [5, 6]) (execB cl bodyU) (Q.map tp) [s0, s1, some (.sh (.bl b)), some (.l1 (f.map Dv.int)), s4, j.1, j.2] = .nx [s0, s1, some (.sh (.bl b)), some (.l1 ((passF (Q.map (sw b)) f).map Dv.int)), s4, j'.1, j'.2] := by
  rw [← pass_map]
  refine for_fold tp (fun (s : List Int) (j : Option Sv × Option Sv) => ([s0, s1, some (.sh (.bl b)), some (.l1 (s.map Dv.int)), s4, j.1, j.2] : Env)) (fun s p => stepF s (sw b p)) Q f j fun l a r j e => ?_
  have h1 : (l.foldl (fun s p => stepF s (sw b p)) f).length ≤ f.length + l.length := by
    rw [pass_map]
    have := fold_len (l.map (sw b)) f
    rw [List.length_map] at this
    exact this
  have h2 : Q.length = l.length + (r.length + 1) := by rw [e, List.length_append, List.length_cons]
  generalize l.foldl (fun s p => stepF s (sw b p)) f = s at h1
  refine ⟨[s0, s1, some (.sh (.bl b)), some (.l1 (s.map Dv.int)), s4, some (.sh (.int a.1)), some (.sh (.int a.2))], (some (.sh (.int a.1)), some (.sh (.int a.2))), rfl, ?_⟩
  have hl : s.length < LIM := by unfold LIM; omega
  cases b with
  | false =>
    refine nx_ite (k := !false && (decide (a.1 ∈ s) && !decide (a.2 ∈ s))) (e1 := [s0, s1, some (.sh (.bl false)), some (.l1 ((stepF s a).map Dv.int)), s4, some (.sh (.int a.1)), some (.sh (.int a.2))]) ?_ (fun h => ?_) (fun h => ?_) ?_
    · walk_at "ev"
    · have hc : a.1 ∈ s ∧ a.2 ∉ s := by simpa using h
      have e1 : stepF s a = s ++ [a.2] := if_pos hc
      rw [e1, List.map_append]
      walk_at "stp"
      exact blk_nil
    · have hc : ¬ (a.1 ∈ s ∧ a.2 ∉ s) := by simpa using h
      have e1 : stepF s a = s := if_neg hc
      rw [e1]
      exact blk_nil
    · apply nx_iteF (k := false && (decide (a.2 ∈ stepF s a) && !decide (a.1 ∈ stepF s a)))
      · walk_at "ev"
      · rfl
      · exact then_nil blk_nil
  | true =>
    apply nx_iteF (k := !true && (decide (a.1 ∈ s) && !decide (a.2 ∈ s)))
    · walk_at "ev"
    · rfl
    refine then_nil ?_
    refine nx_ite (k := true && (decide (a.2 ∈ s) && !decide (a.1 ∈ s))) (e1 := [s0, s1, some (.sh (.bl true)), some (.l1 ((stepF s (swp a)).map Dv.int)), s4, some (.sh (.int a.1)), some (.sh (.int a.2))]) ?_ (fun h => ?_) (fun h => ?_) blk_nil
    · walk_at "ev"
    · have hc : a.2 ∈ s ∧ a.1 ∉ s := by simpa using h
      have e1 : stepF s (swp a) = s ++ [a.1] := if_pos hc
      rw [e1, List.map_append]
      walk_at "stp"
      exact blk_nil
    · have hc : ¬ (a.2 ∈ s ∧ a.1 ∉ s) := by simpa using h
      have e1 : stepF s (swp a) = s := if_neg hc
      rw [e1]
      exact blk_nil
abbrev nums (l : List Nat) : List Int := l.map fun (k : Nat) => (k : Int)
theorem nums_pw (c : Nat) (p : Nat → Bool) : List.Pairwise (fun a b : Int => a < b) (nums ((List.range c).filter p)) := by
  refine List.Pairwise.map _ (fun a b h => ?_) (List.Pairwise.filter p List.pairwise_lt_range)
  · exact Int.ofNat_lt.mpr h
theorem nums_in {c : Nat} {p : Nat → Bool} : Within c (nums ((List.range c).filter p)) := fun x hx => by
  obtain ⟨k, hk, rfl⟩ := List.mem_map.mp hx
  have := List.mem_range.mp (List.mem_filter.mp hk).1
  omega
theorem nums_nd (c : Nat) (p : Nat → Bool) : (nums ((List.range c).filter p)).Nodup := (nums_pw c p).imp fun h => by omega
theorem nums_len (c : Nat) (p : Nat → Bool) : (nums ((List.range c).filter p)).length ≤ c := by
  rw [List.length_map]
  have := List.length_filter_le p (List.range c)
  rw [List.length_range] at this
  exact this
theorem set_isB {c : Nat} {l : List Int} (hw : Within c l) (hp : List.Pairwise (fun a b : Int => a < b) l) : isSetB (c : Int) l = true := by
  unfold isSetB
  rw [List.all_eq_true]
  intro k hk
  have hk := List.mem_range.mp hk
  have e : gI l k = l[k] := by unfold gI; rw [List.getElem?_eq_getElem hk]; rfl
  obtain ⟨h1, h2⟩ := hw l[k] (List.getElem_mem hk)
  rw [e, decide_eq_false (show ¬ l[k] < 0 by omega), decide_eq_false (show ¬ (c : Int) ≤ l[k] by omega)]
  by_cases h0 : 0 < (k : Int)
  · have hk1 : k - 1 < l.length := by omega
    have e1 : gI l (k - 1) = l[k - 1] := by unfold gI; rw [List.getElem?_eq_getElem hk1]; rfl
    have := List.pairwise_iff_getElem.mp hp (k - 1) k hk1 hk (by omega)
    rw [e1, decide_eq_false (show ¬ l[k] ≤ l[k - 1] by omega)]
    cases decide (0 < (k : Int)) <;> rfl
  · rw [decide_eq_false h0]; rfl
theorem cut_from {α : Type} (xs : List α) (k : Nat) : cutL xs (some (k : Int)) none = xs.drop k := by
  unfold cutL
  rw [HT.sIx_nat, HT.sIx_none]
  by_cases h : k ≤ xs.length
  · rw [Nat.min_eq_left h]
    exact List.take_of_length_le (by rw [List.length_drop]; exact Nat.le_refl _)
  · rw [Nat.min_eq_right (by omega), List.drop_of_length_le (Nat.le_refl _), List.drop_of_length_le (by omega), List.take_nil]

theorem map_one (ns : List Int) : (ns.map fun x => [x]).map td = ns.map fun x => Dv.tup [.int x] := by rw [List.map_map]; rfl
theorem here_comp (cl : Cl) (s0 s1 s3 s6 s7 s8 : Option Sv) (F : List (List Int)) (u v : Int) :
    evalE cl (.comp [7] (.nm 7 false) (.seq (.var 2)) (.som (.cmp .In (.var 4) (.var 7))) (.var 7)) [s0, s1, some (.l1 (F.map td)), s3, some (.sh (.int u)), some (.sh (.int v)), s6, s7, s8] = .ok (.l1 ((F.filter fun L => decide (u ∈ L)).map td)) := by
  refine ev_comp (ds := F.map td) ?_ ?_
  · apply s_seq
    · walk_at "ev"
    · rfl
    · rfl
  · refine comp_flt td _ td F fun L _ => ?_
    have hcond : evalC cl (.som (.cmp .In (.var 4) (.var 7))) [s0, s1, some (.l1 (F.map td)), s3, some (.sh (.int u)), some (.sh (.int v)), s6, some (.sh (td L)), s8] = .ok (decide (u ∈ L)) := by
      apply ec_som
      walk_at "ev"
    cases hb : decide (u ∈ L) with
    | true =>
      rw [hb] at hcond
      apply el_t (hc := hcond)
      · rfl
      · walk_at "ev"
      · rfl
    | false =>
      rw [hb] at hcond
      exact el_f rfl hcond
theorem there_comp (cl : Cl) (s0 s1 s3 s6 s7 s8 : Option Sv) (F : List (List Int)) (u v : Int) :
    evalE cl (.comp [7] (.nm 7 false) (.seq (.var 2)) (.som (.cmp .In (.var 5) (.var 7))) (.var 7)) [s0, s1, some (.l1 (F.map td)), s3, some (.sh (.int u)), some (.sh (.int v)), s6, s7, s8] = .ok (.l1 ((F.filter fun L => decide (v ∈ L)).map td)) := by
  refine ev_comp (ds := F.map td) ?_ ?_
  · apply s_seq
    · walk_at "ev"
    · rfl
    · rfl
  · refine comp_flt td _ td F fun L _ => ?_
    have hcond : evalC cl (.som (.cmp .In (.var 5) (.var 7))) [s0, s1, some (.l1 (F.map td)), s3, some (.sh (.int u)), some (.sh (.int v)), s6, some (.sh (td L)), s8] = .ok (decide (v ∈ L)) := by
      apply ec_som
      walk_at "ev"
    cases hb : decide (v ∈ L) with
    | true =>
      rw [hb] at hcond
      apply el_t (hc := hcond)
      · rfl
      · walk_at "ev"
      · rfl
    | false =>
      rw [hb] at hcond
      exact el_f rfl hcond
theorem rest_comp (cl : Cl) (s0 s1 s3 s4 s5 s7 : Option Sv) (F : List (List Int)) (A B : List Int) :
    evalE cl (.comp [7] (.nm 7 false) (.seq (.var 2)) (.som (.cmp .NotIn (.var 7) (.tup (.cons (.var 6) (.cons (.var 8) .nil))))) (.var 7)) [s0, s1, some (.l1 (F.map td)), s3, s4, s5, some (.sh (td A)), s7, some (.sh (td B))] = .ok (.l1 ((F.filter fun L => !decide (L = A ∨ L = B)).map td)) := by
  refine ev_comp (ds := F.map td) ?_ ?_
  · apply s_seq
    · walk_at "ev"
    · rfl
    · rfl
  · refine comp_flt td _ td F fun L _ => ?_
    have hn : cmpop .NotIn (td L) (.tup [td A, td B]) = .ok (!decide (L = A ∨ L = B)) := by
      have := nin_tdsT L [A, B]
      have e : decide (L ∈ [A, B]) = decide (L = A ∨ L = B) := by simp
      rw [e] at this
      exact this
    have hcond : evalC cl (.som (.cmp .NotIn (.var 7) (.tup (.cons (.var 6) (.cons (.var 8) .nil))))) [s0, s1, some (.l1 (F.map td)), s3, s4, s5, some (.sh (td A)), some (.sh (td L)), some (.sh (td B))] = .ok (!decide (L = A ∨ L = B)) := by
      apply ec_som
      walk_at "ev"
    cases hb : (!decide (L = A ∨ L = B)) with
    | true =>
      rw [hb] at hcond
      apply el_t (hc := hcond)
      · rfl
      · walk_at "ev"
      · rfl
    | false =>
      rw [hb] at hcond
      exact el_f rfl hcond
abbrev J5 := Option Sv × Option Sv × Option Sv × Option Sv × Option Sv
theorem cut_to {α : Type} (xs : List α) (k : Nat) : cutL xs none (some (k : Int)) = xs.take k := by
  unfold cutL
  rw [HT.sIx_none, HT.sIx_nat, List.drop_zero, Nat.sub_zero]
  by_cases h : k ≤ xs.length
  · rw [Nat.min_eq_left h]
  · rw [Nat.min_eq_right (by omega), List.take_of_length_le (Nat.le_refl _), List.take_of_length_le (by omega)]
theorem c_ne_ints (a b : List Int) : cmpop .NotEq (.lst (a.map Dv.int)) (.lst (b.map Dv.int)) = .ok (!decide (a = b)) := by
  have hk : ∀ l : List Int, okD (.lst (l.map Dv.int)) = true := fun l => by
    have h := dep_ints l
    have h2 : PyData.depth (.list (toPs (l.map Dv.int))) ≤ 64 := by unfold PyData.depth; omega
    show (PyData.canLayAll0 (toPs (l.map Dv.int)) && decide (PyData.depth (.list (toPs (l.map Dv.int))) ≤ 64)) = true
    rw [lay_ints l, decide_eq_true h2]
    rfl
  show (if okD (.lst (a.map Dv.int)) && okD (.lst (b.map Dv.int)) then Rs.ok (!eqD (.lst (a.map Dv.int)) (.lst (b.map Dv.int))) else .no) = _
  rw [hk, hk]
  show Rs.ok (!PyData.eqvAll (toPs (a.map Dv.int)) (toPs (b.map Dv.int))) = _
  rw [eqv_ints]
theorem sw_id (Q : List (Int × Int)) : Q.map (sw false) = Q := by
  have : sw false = (id : Int × Int → Int × Int) := rfl
  rw [this, List.map_id]
theorem leP_iff {p q : Int × Int} : leP p q = true ↔ p.1 < q.1 ∨ (p.1 = q.1 ∧ p.2 ≤ q.2) := by
  unfold leP pr
  simp only [leI, Bool.or_eq_true, Bool.and_eq_true, decide_eq_true_eq]
  constructor
  · rintro (h | ⟨h, h2⟩)
    · exact .inl h
    · refine .inr ⟨h, ?_⟩
      rcases h2 with h2 | ⟨h2, _⟩ <;> omega
  · rintro (h | ⟨h, h2⟩)
    · exact .inl h
    · refine .inr ⟨h, ?_⟩
      by_cases e : p.2 = q.2
      · exact .inr ⟨e, trivial⟩
      · exact .inl (by omega)
theorem leP_pw (Q : List (Int × Int)) : List.Pairwise (fun p q => leP p q = true) (Q.mergeSort leP) :=
  List.pairwise_mergeSort (fun a b c h h2 => by rw [leP_iff] at *; omega) (fun a b => by rw [Bool.or_eq_true, leP_iff, leP_iff]; omega) Q
/-- pairs of names, the first below the second -/
def Ties (n : Nat) (Q : List (Int × Int)) : Prop := ∀ p ∈ Q, 0 ≤ p.1 ∧ p.1 < p.2 ∧ p.2 < (n : Int)
theorem ties_desc {n k : Nat} {Q : List (Int × Int)} {f : List Int} (hQ : Ties n Q) (hn : n ≤ k) (h : Within n f) (nd : f.Nodup) : (passF (Q.mergeSort leP) f).Perm (passN Q k f) := by
  have mem : ∀ p ∈ Q.mergeSort leP, 0 ≤ p.1 ∧ p.1 < p.2 ∧ p.2 < (n : Int) := fun p hp => hQ p (List.mem_mergeSort.mp hp)
  refine pass_same (List.mergeSort_perm Q leP) hn (fun p hp => by have := hQ p hp; omega) h nd (fun p hp => by have := mem p hp; omega) ?_
  refine (leP_pw Q).imp_of_mem fun {p q} hp hq h => ?_
  have := mem q hq
  rw [leP_iff] at h
  omega
theorem ties_anc {n k : Nat} {Q : List (Int × Int)} {f : List Int} (hQ : Ties n Q) (hn : n ≤ k) (h : Within n f) (nd : f.Nodup) : (passF (((Q.mergeSort leP).map swp).mergeSort leP).reverse f).Perm (passN (Q.map swp) k f) := by
  have hp1 : ((((Q.mergeSort leP).map swp).mergeSort leP).reverse).Perm (Q.map swp) := (List.reverse_perm _).trans ((List.mergeSort_perm _ leP).trans ((List.mergeSort_perm Q leP).map swp))
  have mem : ∀ p ∈ (((Q.mergeSort leP).map swp).mergeSort leP).reverse, 0 ≤ p.2 ∧ p.2 < p.1 ∧ p.1 < (n : Int) := fun p hp => by
    obtain ⟨q, hq, rfl⟩ := List.mem_map.mp (hp1.mem_iff.mp hp)
    exact hQ q hq
  refine pass_same hp1 hn (fun p hp => ?_) h nd (fun p hp => by have := mem p hp; omega) ?_
  · obtain ⟨q, hq, rfl⟩ := List.mem_map.mp hp
    have := hQ q hq
    show (0 ≤ q.2 ∧ q.2 < (n : Int)) ∧ 0 ≤ q.1 ∧ q.1 < (n : Int)
    omega
  · refine List.Pairwise.imp_of_mem (fun {p q} hp hq h => ?_) (List.pairwise_reverse.mpr (leP_pw _))
    have := mem q hq
    rw [leP_iff] at h
    omega
abbrev drQ (c : Int) (Q B : List (Int × Int)) : Dv := .obj 43 [(0, .int c), (1, .tup (Q.map tp)), (2, .tup (B.map tp))]
theorem comp_pairs {cl : Cl} {e : Env} {i j : Nat} {src : Src} {cond : Ox} {Q : List (Int × Int)} (f : Int × Int → Bool) (hs : evalS cl false src e = .ok (Q.map tp)) (h : ∀ a ∈ Q, ∃ e1, bindD (.tp [i, j]) (tp a) (wipeE [i, j] e) = some e1 ∧ evalC cl cond e1 = .ok (f a) ∧ evalE cl (.tup (.cons (.var i) (.cons (.var j) .nil))) e1 = .ok (.sh (.tup [.int a.1, .int a.2]))) :
    evalE cl (.comp [i, j] (.tp [i, j]) src cond (.tup (.cons (.var i) (.cons (.var j) .nil)))) e = .ok (.l1 ((Q.filter f).map tp)) := by
  refine ev_comp hs (comp_flt tp f tp Q fun a ha => ?_)
  obtain ⟨e1, h1, h2, h3⟩ := h a ha
  cases hb : f a with
  | true => rw [hb] at h2; exact el_t h1 h2 h3 rfl
  | false => rw [hb] at h2; exact el_f h1 h2
theorem rt_retX {cl : Cl} {e : Env} {b : Blk} {fz : List Nat} {a : Ex} {C : Nat} {t : Option Int} (h : evalE cl a (frz fz e) = .ex C t) : execB cl (.cons (.ret fz a) b) e = .ex C t (frz fz e) := blk_ex (by rw [execS, h]; rfl)
theorem rt_exprX {cl : Cl} {e : Env} {b : Blk} {fz : List Nat} {a : Ex} {C : Nat} {t : Option Int} (h : evalE cl a (frz fz e) = .ex C t) : execB cl (.cons (.expr fz a) b) e = .ex C t (frz fz e) := blk_ex (by rw [execS, h]; rfl)
theorem ev_callX {P : Pg} {n f : Nat} {es : Exs} {ds : List Dv} {e : Env} {C : Nat} {t : Option Int} (h : evalEs (clI P n) es e = .ok ds) (h2 : callI P n f ds = .ex C t) : evalE (clI P n) (.call f es) e = .ex C t := ev_call h h2
theorem ev_methX {P : Pg} {n C f D : Nat} {t : Option Int} {a : Ex} {es : Exs} {e : Env} {fs : List (Nat × Dv)} {ds : List Dv} (ha : evalE (clI P n) a e = .ok (.sh (.obj C fs))) (h : evalEs (clI P n) es e = .ok ds) (h2 : callI P n f (.obj C fs :: ds) = .ex D t) : evalE (clI P n) (.meth C f a es) e = .ex D t := by
  rw [evalE, ha]
  show (if C = C then (evalEs (clI P n) es e).bind fun ds => (clI P n).call f (.obj C fs :: ds) else .no) = _
  rw [if_pos rfl, h]
  exact h2
abbrev ninN1 (N : List Int) (p : Int × Int) : Bool := !decide (p.1 ∈ N)
abbrev ninN2 (N : List Int) (p : Int × Int) : Bool := !decide (p.2 ∈ N)
abbrev ninNN (N : List Int) (p : Int × Int) : Bool := !decide (p.1 ∈ N) && !decide (p.2 ∈ N)
end Dg

/-! Plain: what is come to within some names; lumps, gone through turn by turn. -/
namespace Dg
open PySem
theorem passN_iff {Q : List (Int × Int)} {k : Nat} {f : List Int} (sh : Shut Q (passN Q k f)) (x : Int) : x ∈ passN Q k f ↔ ∀ C : Int → Prop, (∀ y ∈ f, C y) → (∀ p ∈ Q, C p.1 → C p.2) → C x :=
  ⟨fun h C h1 h2 => passN_pred h2 h1 x h, fun h => h (· ∈ passN Q k f) (fun y hy => passN_sub hy) sh⟩
theorem passF_iff {Q : List (Int × Int)} {f : List Int} (sh : Shut Q (passF Q f)) (x : Int) : x ∈ passF Q f ↔ ∀ C : Int → Prop, (∀ y ∈ f, C y) → (∀ p ∈ Q, C p.1 → C p.2) → C x :=
  ⟨fun h C h1 h2 => pass_pred h2 h1 x h, fun h => h (· ∈ passF Q f) (fun y hy => pass_sub hy) sh⟩
theorem passF_nil : ∀ Q : List (Int × Int), passF Q [] = []
  | [] => rfl
  | q :: Q => by
    show passF Q (stepF [] q) = []
    have : stepF [] q = [] := if_neg (by simp)
    rw [this]
    exact passF_nil Q
theorem passN_nil (Q : List (Int × Int)) : ∀ k, passN Q k [] = []
  | 0 => rfl
  | k + 1 => by rw [passN, passF_nil, passN_nil Q k]
/-- as many passes as there are names that may be come to: shut -/
theorem passN_fullN {N : List Int} {Q : List (Int × Int)} {k : Nat} {f : List Int} (nd : f.Nodup) (hf : ∀ y ∈ f, y ∈ N) (hQ : ∀ p ∈ Q, p.2 ∈ N) (hk : N.length ≤ k) : Shut Q (passN Q k f) := by
  rcases passN_shut (Q := Q) (k := k) (f := f) with z | z
  · exact z
  · have h1 := (passN_nd (Q := Q) (k := k) nd).length_le_of_subset (l₂ := N) fun x hx => passN_pred (C := (· ∈ N)) (fun p hp _ => hQ p hp) hf x hx
    have e : f = [] := by
      cases f with
      | nil => rfl
      | cons x r => rw [List.length_cons] at z; omega
    subst e
    intro p hp hx
    rw [passN_nil] at hx
    cases hx
theorem fold_passN {α : Type} (R : List (Int × Int)) : ∀ (l : List α) (f : List Int), l.foldl (fun s _ => passF R s) f = passN R l.length f
  | [], _ => rfl
  | _ :: l, f => fold_passN R l (passF R f)
theorem passN_len (R : List (Int × Int)) : ∀ (k : Nat) (f : List Int), (passN R k f).length ≤ f.length + k * R.length
  | 0, f => by show f.length ≤ _; omega
  | k + 1, f => by
    have h1 := passN_len R k (passF R f)
    have h2 : (passF R f).length ≤ f.length + R.length := fold_len R f
    rw [Nat.succ_mul]
    show (passN R k (passF R f)).length ≤ _
    omega
/-! ### going up within names -/
def Reach (Q : List (Int × Int)) (N E : List Int) (x : Int) : Prop := ∀ C : Int → Prop, (∀ y ∈ E, C y) → (∀ p ∈ Q, p.1 ∈ N → p.2 ∈ N → C p.2 → C p.1) → C x
abbrev upQ (N : List Int) (Q : List (Int × Int)) : List (Int × Int) := (Q.filter fun p => decide (p.1 ∈ N)).map swp
def uppL (Q : List (Int × Int)) (N E : List Int) : List Int := (passN (upQ N Q) N.length E).mergeSort leZ
theorem upQ_mem {N : List Int} {Q : List (Int × Int)} {p : Int × Int} : p ∈ upQ N Q ↔ (p.2, p.1) ∈ Q ∧ p.2 ∈ N := by
  unfold upQ
  rw [List.mem_map]
  constructor
  · rintro ⟨q, hq, rfl⟩
    obtain ⟨h1, h2⟩ := List.mem_filter.mp hq
    exact ⟨h1, of_decide_eq_true h2⟩
  · rintro ⟨h1, h2⟩
    exact ⟨(p.2, p.1), List.mem_filter.mpr ⟨h1, decide_eq_true h2⟩, rfl⟩
theorem upp_mem {Q : List (Int × Int)} {N E : List Int} (hE : ∀ y ∈ E, y ∈ N) (nd : E.Nodup) (x : Int) : x ∈ uppL Q N E ↔ Reach Q N E x := by
  unfold uppL
  rw [List.mem_mergeSort, passN_iff (passN_fullN nd hE (fun p hp => (upQ_mem.mp hp).2) (Nat.le_refl _))]
  constructor
  · intro h C h1 h2
    refine (h (fun y => y ∈ N ∧ C y) (fun y hy => ⟨hE y hy, h1 y hy⟩) fun p hp hc => ?_).2
    obtain ⟨h3, h4⟩ := upQ_mem.mp hp
    exact ⟨h4, h2 _ h3 h4 hc.1 hc.2⟩
  · intro h C h1 h2
    exact h C h1 fun p hp n1 _ hc => h2 (p.2, p.1) (upQ_mem.mpr ⟨hp, n1⟩) hc
theorem upp_up {Q : List (Int × Int)} {N E : List Int} (nd : E.Nodup) : Up (uppL Q N E) := sort_up (passN_nd nd)
theorem upp_sub {Q : List (Int × Int)} {N E : List Int} (hE : ∀ y ∈ E, y ∈ N) (nd : E.Nodup) {x : Int} (hx : x ∈ uppL Q N E) : x ∈ N :=
  (upp_mem hE nd x).mp hx (· ∈ N) hE fun p _ h1 _ _ => h1
theorem upp_own {Q : List (Int × Int)} {N E : List Int} (hE : ∀ y ∈ E, y ∈ N) (nd : E.Nodup) {x : Int} (hx : x ∈ E) : x ∈ uppL Q N E :=
  (upp_mem hE nd x).mpr fun C h1 _ => h1 x hx
theorem sort_self {Q : List (Int × Int)} (h : List.Pairwise (fun p q => leP p q = true) Q) : Q.mergeSort leP = Q :=
  List.Perm.eq_of_pairwise (fun a b _ _ h1 h2 => by
    rw [leP_iff] at h1 h2
    obtain ⟨a1, a2⟩ := a
    obtain ⟨b1, b2⟩ := b
    simp only at h1 h2
    rw [Prod.mk.injEq]
    omega) (leP_pw Q) h (List.mergeSort_perm Q leP)
theorem in_mem {N : List Int} {Q : List (Int × Int)} {p : Int × Int} : p ∈ Q.filter (inN N) ↔ p ∈ Q ∧ p.1 ∈ N ∧ p.2 ∈ N := by
  rw [List.mem_filter, Bool.and_eq_true, decide_eq_true_eq, decide_eq_true_eq]
/-- one pass over the ties of the part, falling: what is come to -/
theorem anc_upp {n : Nat} {Q : List (Int × Int)} {N E : List Int} (hQ : Ties n Q) (pw : List.Pairwise (fun p q => leP p q = true) Q) (hE : ∀ y ∈ E, y ∈ N) (wE : Within n E) (nd : E.Nodup) :
    (passF (((Q.filter (inN N)).map swp).mergeSort leP).reverse E).mergeSort leZ = uppL Q N E := by
  have hF : Ties n (Q.filter (inN N)) := fun p hp => hQ p (List.mem_filter.mp hp).1
  have pm := ties_anc hF (Nat.le_refl n) wE nd
  rw [sort_self (pw.filter _)] at pm
  have wp : WithinP n ((Q.filter (inN N)).map swp) := fun p hp => by
    obtain ⟨q, hq, rfl⟩ := List.mem_map.mp hp
    have := hF q hq
    show (0 ≤ q.2 ∧ q.2 < (n : Int)) ∧ 0 ≤ q.1 ∧ q.1 < (n : Int)
    omega
  refine up_eq (sort_up (pass_nd nd)) (upp_up nd) fun x => ?_
  rw [List.mem_mergeSort, pm.mem_iff, passN_iff (passN_full (Nat.le_refl n) wp wE nd), upp_mem hE nd]
  constructor
  · intro h C h1 h2
    refine h C h1 fun p hp hc => ?_
    obtain ⟨q, hq, rfl⟩ := List.mem_map.mp hp
    obtain ⟨h3, h4, h5⟩ := in_mem.mp hq
    exact h2 q h3 h4 h5 hc
  · intro h C h1 h2
    exact h C h1 fun p hp n1 n2 hc => h2 (swp p) (List.mem_map.mpr ⟨p, in_mem.mpr ⟨hp, n1, n2⟩, rfl⟩) hc
/-! ### lumps, turn by turn -/
def stepB (N : List Int) (f : List Int) (p : Int × Int) : List Int := if p.1 ∈ N ∧ p.2 ∈ N ∧ ¬ (p.1 ∈ f ↔ p.2 ∈ f) then f ++ [if p.1 ∈ f then p.2 else p.1] else f
def dblQ (N : List Int) (Q : List (Int × Int)) : List (Int × Int) := (Q.filter (inN N)).flatMap fun p => [p, swp p]
theorem stepB_in {N f : List Int} {p : Int × Int} (h1 : p.1 ∈ N) (h2 : p.2 ∈ N) : stepB N f p = stepF (stepF f p) (swp p) := by
  unfold stepB
  by_cases a : p.1 ∈ f
  · by_cases b : p.2 ∈ f
    · rw [if_neg (by simp [a, b])]
      have e1 : stepF f p = f := if_neg (by simp [b])
      have e2 : stepF f (swp p) = f := if_neg (by simp [a])
      rw [e1, e2]
    · rw [if_pos ⟨h1, h2, by simp [a, b]⟩, if_pos a]
      have e1 : stepF f p = f ++ [p.2] := if_pos ⟨a, b⟩
      have e2 : stepF (f ++ [p.2]) (swp p) = f ++ [p.2] := if_neg (by simp [a])
      rw [e1, e2]
  · by_cases b : p.2 ∈ f
    · rw [if_pos ⟨h1, h2, by simp [a, b]⟩, if_neg a]
      have e1 : stepF f p = f := if_neg (by simp [a])
      have e2 : stepF f (swp p) = f ++ [p.1] := if_pos ⟨b, a⟩
      rw [e1, e2]
    · rw [if_neg (by simp [a, b])]
      have e1 : stepF f p = f := if_neg (by simp [a])
      have e2 : stepF f (swp p) = f := if_neg (by simp [b])
      rw [e1, e2]
theorem stepB_out {N f : List Int} {p : Int × Int} (h : ¬ (p.1 ∈ N ∧ p.2 ∈ N)) : stepB N f p = f := if_neg fun z => h ⟨z.1, z.2.1⟩
theorem fold_stepB (N : List Int) : ∀ (Q : List (Int × Int)) (f : List Int), Q.foldl (stepB N) f = passF (dblQ N Q) f
  | [], _ => rfl
  | p :: Q, f => by
    rw [List.foldl_cons, fold_stepB N Q]
    by_cases h : p.1 ∈ N ∧ p.2 ∈ N
    · rw [stepB_in h.1 h.2]
      have e : dblQ N (p :: Q) = p :: swp p :: dblQ N Q := by
        unfold dblQ
        rw [List.filter_cons, if_pos (by rw [Bool.and_eq_true, decide_eq_true_eq, decide_eq_true_eq]; exact h)]
        rfl
      rw [e]
      rfl
    · rw [stepB_out h]
      have e : dblQ N (p :: Q) = dblQ N Q := by
        unfold dblQ
        rw [List.filter_cons, if_neg (by rw [Bool.and_eq_true, decide_eq_true_eq, decide_eq_true_eq]; exact h)]
      rw [e]
theorem dbl_mem {N : List Int} {Q : List (Int × Int)} {p : Int × Int} : p ∈ dblQ N Q ↔ (p.1 ∈ N ∧ p.2 ∈ N) ∧ (p ∈ Q ∨ (p.2, p.1) ∈ Q) := by
  unfold dblQ
  rw [List.mem_flatMap]
  constructor
  · rintro ⟨q, hq, hp⟩
    obtain ⟨h1, h2, h3⟩ := in_mem.mp hq
    rcases List.mem_cons.mp hp with rfl | hp
    · exact ⟨⟨h2, h3⟩, .inl h1⟩
    · rw [List.mem_singleton] at hp
      subst hp
      exact ⟨⟨h3, h2⟩, .inr h1⟩
  · rintro ⟨⟨h1, h2⟩, h | h⟩
    · exact ⟨p, in_mem.mpr ⟨h, h1, h2⟩, List.mem_cons_self⟩
    · exact ⟨(p.2, p.1), in_mem.mpr ⟨h, h2, h1⟩, List.mem_cons_of_mem _ List.mem_cons_self⟩
theorem dbl_len (N : List Int) (Q : List (Int × Int)) : (dblQ N Q).length ≤ 2 * Q.length := by
  have h : ∀ l : List (Int × Int), (l.flatMap fun p => [p, swp p]).length = 2 * l.length := fun l => by
    induction l with
    | nil => rfl
    | cons p l ih =>
      rw [List.flatMap_cons, List.length_append, ih]
      show 2 + 2 * l.length = 2 * (l.length + 1)
      omega
  unfold dblQ
  rw [h]
  have := List.length_filter_le (inN N) Q
  omega
def lumpB (N : List Int) (Q : List (Int × Int)) (x : Int) : List Int := passN (dblQ N Q) N.length [x]
theorem lumpB_mem {N : List Int} {Q : List (Int × Int)} {x : Int} (hx : x ∈ N) (y : Int) : y ∈ lumpB N Q x ↔ Conn N Q x y := by
  have sh := passN_fullN (N := N) (Q := dblQ N Q) (k := N.length) (f := [x]) (by simp) (fun y hy => by rw [List.mem_singleton.mp hy]; exact hx) (fun p hp => (dbl_mem.mp hp).1.2) (Nat.le_refl _)
  unfold lumpB
  constructor
  · intro hy
    refine passN_pred (C := fun y => Conn N Q x y) (fun p hp hc => ?_) (fun z hz => by rw [List.mem_singleton.mp hz]; exact .refl x) y hy
    obtain ⟨⟨h1, h2⟩, h3 | h3⟩ := dbl_mem.mp hp
    · exact hc.trans (Conn.edge h3 h1 h2)
    · exact hc.trans (Conn.edge h3 h2 h1).symm
  · intro h
    refine (h (· ∈ passN (dblQ N Q) N.length [x]) fun p hp h1 h2 => ⟨fun z => ?_, fun z => ?_⟩).mp (passN_sub (List.mem_singleton.mpr rfl))
    · exact sh p (dbl_mem.mpr ⟨⟨h1, h2⟩, .inl hp⟩) z
    · exact sh (p.2, p.1) (dbl_mem.mpr ⟨⟨h2, h1⟩, .inr hp⟩) z
theorem lumpB_of {n : Nat} {N : List Int} {Q : List (Int × Int)} (hn : n ≤ 6) (hN : Within n N) {x : Int} (hx : x ∈ N) : (lumpB N Q x).mergeSort leZ = lumpOf N Q x :=
  up_eq (sort_up (passN_nd (by simp))) lump_up fun y => by rw [List.mem_mergeSort, lumpB_mem hx, lump_mem hn hN hx]
theorem lumpB_in {n : Nat} {N : List Int} {Q : List (Int × Int)} (hn : n ≤ 6) (hN : Within n N) {x : Int} (hx : x ∈ N) (y : Int) : y ∈ lumpB N Q x ↔ y ∈ lumpOf N Q x := by
  rw [← lumpB_of hn hN hx, List.mem_mergeSort]
/-! ### sets of names -/
abbrev St (c : Nat) (N : List Int) : Prop := Within c N ∧ Up N
theorem St.nd {c : Nat} {N : List Int} (h : St c N) : N.Nodup := up_nd h.2
theorem St.is {c : Nat} {N : List Int} (h : St c N) : isSetB (c : Int) N = true := set_isB h.1 h.2
theorem St.len {c : Nat} {N : List Int} (h : St c N) : N.length ≤ c := nd_len h.nd h.1
theorem St.sub {c : Nat} {N M : List Int} (h : St c N) (s : M.Sublist N) : St c M := ⟨fun x hx => h.1 x (s.subset hx), h.2.sublist s⟩
theorem st_nums (c : Nat) (p : Nat → Bool) : St c (nums ((List.range c).filter p)) := ⟨nums_in, nums_pw c p⟩
theorem St.upp {c : Nat} {Q : List (Int × Int)} {N E : List Int} (h : St c N) (hE : ∀ y ∈ E, y ∈ N) (nd : E.Nodup) : St c (uppL Q N E) := ⟨fun x hx => h.1 x (upp_sub hE nd hx), upp_up nd⟩
/-- [name for k, name in enumerate(l) if ..] -/
theorem enum_zip : ∀ (l : List Int) (k : Nat), enumI k (l.map Dv.int) = (l.zipIdx k).map fun p => .tup [.int (p.2 : Int), .int p.1]
  | [], _ => rfl
  | x :: l, k => by
    show Dv.tup [.int ((k : Nat) : Int), .int x] :: enumI (k + 1) (l.map Dv.int) = _
    rw [enum_zip l (k + 1)]
    rfl
theorem zip_sub (l : List Int) (k : Nat) (q : Int × Nat → Bool) : (((l.zipIdx k).filter q).map Prod.fst).Sublist l := by
  have h := (List.filter_sublist (p := q) (l := l.zipIdx k)).map Prod.fst
  rw [List.zipIdx_map_fst] at h
  exact h
theorem b_shl (i j : Int) (h : 0 ≤ j ∧ j ≤ 1000000 ∧ i.natAbs < 2 ^ 64) : binop .LShift (.int i) (.int j) = .ok (.sh (.int (i * 2 ^ j.toNat))) := if_pos h
/-! ### lists of sets alike -/
theorem eqv_tds : ∀ a b : List (List Int), PyData.eqvAll (toPs (a.map td)) (toPs (b.map td)) = decide (a = b)
  | [], [] => rfl
  | [], _ :: _ => rfl
  | _ :: _, [] => rfl
  | x :: a, y :: b => by
    show (PyData.eqvAll (toPs (x.map Dv.int)) (toPs (y.map Dv.int)) && PyData.eqvAll (toPs (a.map td)) (toPs (b.map td))) = _
    rw [eqv_tds a b, eqv_ints]
    by_cases h : x = y <;> by_cases h2 : a = b <;> simp [h, h2]
theorem c_eq_tds (a b : List (List Int)) : cmpop .Eq (.lst (a.map td)) (.lst (b.map td)) = .ok (decide (a = b)) := by
  show (if okD (.lst (a.map td)) && okD (.lst (b.map td)) then Rs.ok (eqD (.lst (a.map td)) (.lst (b.map td))) else .no) = _
  rw [ok_tds, ok_tds]
  show Rs.ok (PyData.eqvAll (toPs (a.map td)) (toPs (b.map td))) = _
  rw [eqv_tds]
theorem c_ne_tds (a b : List (List Int)) : cmpop .NotEq (.lst (a.map td)) (.lst (b.map td)) = .ok (!decide (a = b)) := by
  show (if okD (.lst (a.map td)) && okD (.lst (b.map td)) then Rs.ok (!eqD (.lst (a.map td)) (.lst (b.map td))) else .no) = _
  rw [ok_tds, ok_tds]
  show Rs.ok (!PyData.eqvAll (toPs (a.map td)) (toPs (b.map td))) = _
  rw [eqv_tds]
theorem c_eq_ints (a b : List Int) : cmpop .Eq (.lst (a.map Dv.int)) (.lst (b.map Dv.int)) = .ok (decide (a = b)) := by
  have h := c_ne_ints a b
  have hk : ∀ l : List Int, okD (.lst (l.map Dv.int)) = true := fun l => by
    have h := dep_ints l
    have h2 : PyData.depth (.list (toPs (l.map Dv.int))) ≤ 64 := by unfold PyData.depth; omega
    show (PyData.canLayAll0 (toPs (l.map Dv.int)) && decide (PyData.depth (.list (toPs (l.map Dv.int))) ≤ 64)) = true
    rw [lay_ints l, decide_eq_true h2]
    rfl
  show (if okD (.lst (a.map Dv.int)) && okD (.lst (b.map Dv.int)) then Rs.ok (eqD (.lst (a.map Dv.int)) (.lst (b.map Dv.int))) else .no) = _
  rw [hk, hk]
  show Rs.ok (PyData.eqvAll (toPs (a.map Dv.int)) (toPs (b.map Dv.int))) = _
  rw [eqv_ints]
/-! ### all names -/
theorem rng_ints (n : Nat) : rngI 0 (n : Int) = (nums (List.range n)).map Dv.int := by
  rw [rng_natR, List.map_map]
  rfl
theorem ev_rngT {cl : Cl} {e : Env} {a : Ex} {n : Nat} (ha : evalE cl a e = .ok (.sh (.int (n : Int)))) (hn : n ≤ LIM) : evalE cl (.rngT (.cst (.int 0)) a) e = .ok (.sh (td (nums (List.range n)))) := by
  unfold td
  rw [← rng_ints]
  have hp : rOk 0 ∧ rOk (n : Int) ∧ ((n : Int) - 0).toNat ≤ LIM := by
    unfold rOk LIM at *
    omega
  rw [evalE, evalE, ha, Rs.bind_ok, Rs.bind_ok]
  dsimp only [Sv.toD]
  rw [if_pos hp]
theorem ev_rngL {cl : Cl} {e : Env} {a : Ex} {n : Nat} (ha : evalE cl a e = .ok (.sh (.int (n : Int)))) (hn : n ≤ LIM) : evalE cl (.rngL (.cst (.int 0)) a) e = .ok (.l1 ((nums (List.range n)).map Dv.int)) := by
  rw [← rng_ints]
  have hp : rOk 0 ∧ rOk (n : Int) ∧ ((n : Int) - 0).toNat ≤ LIM := by
    unfold rOk LIM at *
    omega
  rw [evalE, evalE, ha, Rs.bind_ok, Rs.bind_ok]
  dsimp only [Sv.toD]
  rw [if_pos hp]
theorem st_all (c : Nat) : St c (nums (List.range c)) := by
  have := st_nums c fun _ => true
  rw [List.filter_eq_self.mpr (fun _ _ => rfl)] at this
  exact this
theorem all_mem {c : Nat} {x : Int} (h0 : 0 ≤ x) (h1 : x < (c : Int)) : x ∈ nums (List.range c) := List.mem_map.mpr ⟨x.toNat, List.mem_range.mpr (by omega), by omega⟩
/-! ### going up, pair by pair -/
def stepU (N : List Int) (f : List Int) (p : Int × Int) : List Int := if p.2 ∈ f ∧ p.1 ∈ N ∧ p.1 ∉ f then f ++ [p.1] else f
theorem fold_stepU (N : List Int) : ∀ (Q : List (Int × Int)) (f : List Int), Q.foldl (stepU N) f = passF (upQ N Q) f
  | [], _ => rfl
  | p :: Q, f => by
    rw [List.foldl_cons, fold_stepU N Q]
    by_cases h : p.1 ∈ N
    · have e : upQ N (p :: Q) = swp p :: upQ N Q := by
        unfold upQ
        rw [List.filter_cons, if_pos (decide_eq_true h)]
        rfl
      have e2 : stepU N f p = stepF f (swp p) := by
        unfold stepU stepF
        by_cases a : p.2 ∈ f <;> by_cases b : p.1 ∈ f <;> simp [h, a, b]
      rw [e, e2]
      rfl
    · have e : upQ N (p :: Q) = upQ N Q := by
        unfold upQ
        rw [List.filter_cons, if_neg (by rw [decide_eq_false h]; exact Bool.false_ne_true)]
      have e2 : stepU N f p = f := if_neg fun z => h z.2.1
      rw [e, e2]
theorem upQ_len (N : List Int) (Q : List (Int × Int)) : (upQ N Q).length ≤ Q.length := by
  unfold upQ
  rw [List.length_map]
  exact List.length_filter_le _ _
/-- names, a list or a tuple -/
inductive Nms (N : List Int) : Dv → Prop
  | l : Nms N (.lst (N.map Dv.int))
  | t : Nms N (td N)
theorem Nms.items {N : List Int} {D : Dv} (h : Nms N D) : D.items = some (N.map Dv.int) := by cases h <;> rfl
theorem Nms.inn {N : List Int} {D : Dv} (h : Nms N D) (a : Int) : cmpop .In (.int a) D = .ok (decide (a ∈ N)) := by
  cases h
  · exact in_ints a N
  · exact in_intsT a N
theorem Nms.list {N : List Int} {D : Dv} (h : Nms N D) : bcall .list [D] = .ok (.l1 (N.map Dv.int)) := by cases h <;> rfl
end Dg

/-! Plain: lumps within names, cuts, what blocks them. -/
namespace Dg
open PySem
abbrev LL (N : List Int) (R : List (Int × Int)) : List (List Int) := lawL N R N.length N
section
variable {c : Nat} (hc : c ≤ 6) {P R : List (Int × Int)}
theorem conn_mono {N M : List Int} (h : ∀ x ∈ N, x ∈ M) {x y : Int} (q : Conn N R x y) : Conn M R x y := fun C hC => q C fun p hp h1 h2 => hC p hp (h _ h1) (h _ h2)
include hc in
theorem lump_same {N : List Int} (hN : St c N) {x y : Int} (hx : x ∈ N) (h : Conn N R x y) : lumpOf N R y = lumpOf N R x :=
  up_eq lump_up lump_up fun z => by
    rw [lump_mem hc hN.1 (h.inN hx), lump_mem hc hN.1 hx]
    exact ⟨fun q => h.trans q, fun q => h.symm.trans q⟩
include hc in
theorem lump_own {N : List Int} (hN : St c N) {x : Int} (hx : x ∈ N) : x ∈ lumpOf N R x := (lump_mem hc hN.1 hx x).mpr (.refl x)
include hc in
theorem st_lump {N : List Int} (hN : St c N) {x : Int} (hx : x ∈ N) : St c (lumpOf N R x) := ⟨fun y hy => hN.1 y (((lump_mem hc hN.1 hx y).mp hy).inN hx), lump_up⟩
include hc in
theorem lump_sub {N : List Int} (hN : St c N) {x y : Int} (hx : x ∈ N) (hy : y ∈ lumpOf N R x) : y ∈ N := ((lump_mem hc hN.1 hx y).mp hy).inN hx
include hc in
theorem ll_mem {N : List Int} (hN : St c N) {L : List Int} : L ∈ LL N R ↔ ∃ x ∈ N, L = lumpOf N R x := by
  obtain ⟨g1, g2, g3⟩ := lawL_ok (Q := R) hc hN.1 N.length N (Nat.le_refl _) hN.2 (fun _ h => h) fun x hx y h => h.inN hx
  constructor
  · intro h
    obtain ⟨x, r, _, hx, e⟩ := g2 L h
    exact ⟨x, hx, e⟩
  · rintro ⟨x, hx, rfl⟩
    obtain ⟨M, hM, xM⟩ := g1 x hx
    obtain ⟨a, r, _, ha, e⟩ := g2 M hM
    rw [e] at xM
    rw [lump_same hc hN ha ((lump_mem hc hN.1 ha x).mp xM), ← e]
    exact hM
include hc in
theorem ll_find {N : List Int} (hN : St c N) {x : Int} (hx : x ∈ N) {M : List Int} (hM : M ∈ LL N R) (h : x ∈ M) : M = lumpOf N R x := by
  obtain ⟨a, ha, rfl⟩ := (ll_mem hc hN).mp hM
  exact (lump_same hc hN ha ((lump_mem hc hN.1 ha x).mp h)).symm
include hc in
theorem ll_one {N : List Int} (hN : St c N) : LL N R = [N] ↔ N ≠ [] ∧ ∀ x ∈ N, ∀ y ∈ N, Conn N R x y := by
  constructor
  · intro h
    have hm : N ∈ LL N R := by rw [h]; exact List.mem_cons_self
    obtain ⟨a, ha, e⟩ := (ll_mem hc hN).mp hm
    refine ⟨fun z => (by rw [z] at ha; cases ha), fun x hx y hy => ?_⟩
    have h1 := (lump_mem hc hN.1 ha x).mp (by rw [← e]; exact hx)
    have h2 := (lump_mem hc hN.1 ha y).mp (by rw [← e]; exact hy)
    exact h1.symm.trans h2
  · rintro ⟨ne, h⟩
    obtain ⟨x, r, rfl⟩ : ∃ x r, N = x :: r := by
      cases h : N with
      | nil => exact absurd h ne
      | cons x r => exact ⟨x, r, rfl⟩
    have hx : x ∈ x :: r := List.mem_cons_self
    have e : lumpOf (x :: r) R x = x :: r := up_eq lump_up hN.2 fun z => by
      rw [lump_mem hc hN.1 hx]
      exact ⟨fun q => q.inN hx, fun q => h x hx z q⟩
    have e2 : LL (x :: r) R = lumpOf (x :: r) R x :: lawL (x :: r) R r.length ((x :: r).filter fun y => !decide (y ∈ lumpOf (x :: r) R x)) := rfl
    have e3 : ((x :: r).filter fun y => !decide (y ∈ lumpOf (x :: r) R x)) = [] := by
      rw [List.filter_eq_nil_iff]
      intro y hy
      rw [e, decide_eq_true hy]
      exact Bool.false_ne_true
    rw [e2, e3, e]
    cases r.length <;> rfl
include hc in
/-- a lump's names hang together within any names that hold it -/
theorem lump_conn {W N : List Int} (hW : St c W) {x : Int} (hx : x ∈ W) (hs : ∀ y ∈ lumpOf W R x, y ∈ N) : ∀ y ∈ lumpOf W R x, Conn N R x y := fun y hy => by
  have mem := lump_mem (Q := R) hc hW.1 hx
  have := ((mem y).mp hy (fun z => z ∈ lumpOf W R x ∧ Conn N R x z) fun p hp h1 h2 => by
    have key : p.1 ∈ lumpOf W R x ↔ p.2 ∈ lumpOf W R x := by
      rw [mem, mem]
      exact ⟨fun q => q.trans (Conn.edge hp h1 h2), fun q => q.trans (Conn.edge hp h1 h2).symm⟩
    constructor
    · rintro ⟨a, b⟩
      have a2 := key.mp a
      exact ⟨a2, b.trans (Conn.edge hp (hs _ a) (hs _ a2))⟩
    · rintro ⟨a, b⟩
      have a2 := key.mpr a
      exact ⟨a2, b.trans (Conn.edge hp (hs _ a2) (hs _ a)).symm⟩).mp ⟨lump_own hc hW hx, .refl x⟩
  exact this.2
include hc in
theorem lump_one {W : List Int} (hW : St c W) {x : Int} (hx : x ∈ W) : LL (lumpOf W R x) R = [lumpOf W R x] := by
  refine (ll_one hc (st_lump hc hW hx)).mpr ⟨List.ne_nil_of_mem (lump_own hc hW hx), fun y hy z hz => ?_⟩
  have h1 := lump_conn hc hW hx (fun y h => h) y hy
  have h2 := lump_conn hc hW hx (fun y h => h) z hz
  exact h1.symm.trans h2
/-! ### going up -/
theorem upp_closed {N E : List Int} (hE : ∀ y ∈ E, y ∈ N) (nd : E.Nodup) {p : Int × Int} (hp : p ∈ P) (h1 : p.1 ∈ N) (h2 : p.2 ∈ uppL P N E) : p.1 ∈ uppL P N E :=
  (upp_mem hE nd _).mpr fun C hC1 hC2 => hC2 p hp h1 (upp_sub hE nd h2) ((upp_mem hE nd _).mp h2 C hC1 hC2)
theorem upp_min {N E M : List Int} (hE : ∀ y ∈ E, y ∈ N) (nd : E.Nodup) (h1 : ∀ y ∈ E, y ∈ M) (h2 : ∀ p ∈ P, p.1 ∈ N → p.2 ∈ N → p.2 ∈ M → p.1 ∈ M) {x : Int} (hx : x ∈ uppL P N E) : x ∈ M :=
  (upp_mem hE nd x).mp hx (· ∈ M) h1 h2
/-! ### cuts -/
abbrev Cut := PySem.Str × List Int
def okCut (c : Nat) (P R : List (Int × Int)) (S : List Int) (k : Cut) : Prop :=
  St c k.2 ∧ k.2 ≠ [] ∧ k.2.length < S.length ∧ (∀ x ∈ k.2, x ∈ S) ∧ ((k.1 = "lump" ∧ k.2 ∈ LL S R) ∨ (k.1 = "up" ∧ ∀ p ∈ P, p.2 ∈ k.2 → p.1 ∈ S → p.1 ∈ k.2))
def goes (c : Nat) (P R : List (Int × Int)) : List Int → List Cut → List Int → Prop
  | S, [], T => S = T
  | S, k :: ks, T => okCut c P R S k ∧ goes c P R k.2 ks T
theorem goes_sub : ∀ {ks : List Cut} {S T : List Int}, goes c P R S ks T → ∀ x ∈ T, x ∈ S
  | [], _, _, h, x, hx => by rw [show _ = _ from h]; exact hx
  | k :: ks, S, T, h, x, hx => h.1.2.2.2.1 x (goes_sub h.2 x hx)
theorem goes_app : ∀ {ks : List Cut} {S T : List Int} {k : Cut}, goes c P R S ks T → okCut c P R T k → goes c P R S (ks ++ [k]) k.2
  | [], S, T, k, h, hk => by
    have h : S = T := h
    subst h
    exact ⟨hk, rfl⟩
  | j :: ks, S, T, k, h, hk => ⟨h.1, goes_app h.2 hk⟩
/-- some names, within which all hang together and from which nothing leads up to fewer -/
structure Blk1 (c : Nat) (P R : List (Int × Int)) (I U : List Int) : Prop where
  st : St c U
  sub : ∀ x ∈ I, x ∈ U
  ne : I ≠ []
  nd : I.Nodup
  con : ∀ x ∈ U, ∀ y ∈ U, Conn U R x y
  up : uppL P U I = U
include hc in
theorem blk_keep {I U S : List Int} {k : Cut} (B : Blk1 c P R I U) (hS : St c S) (hU : ∀ x ∈ U, x ∈ S) (hk : okCut c P R S k) (hI : ∀ x ∈ I, x ∈ k.2) : ∀ x ∈ U, x ∈ k.2 := fun x hx => by
  rcases hk.2.2.2.2 with ⟨_, hm⟩ | ⟨_, hcl⟩
  · obtain ⟨a, ha, e⟩ := (ll_mem hc hS).mp hm
    obtain ⟨i, r, hi⟩ : ∃ i r, I = i :: r := by
      cases h : I with
      | nil => exact absurd h B.ne
      | cons i r => exact ⟨i, r, rfl⟩
    have hiI : i ∈ I := by rw [hi]; exact List.mem_cons_self
    have h1 : i ∈ lumpOf S R a := by rw [← e]; exact hI i hiI
    rw [e, lump_mem hc hS.1 ha]
    exact ((lump_mem hc hS.1 ha i).mp h1).trans (conn_mono hU (B.con i (B.sub i hiI) x hx))
  · rw [← B.up] at hx
    exact upp_min B.sub B.nd hI (fun p hp h1 _ h3 => hcl p hp h3 (hU _ h1)) hx
include hc in
theorem blk_path {I U : List Int} (B : Blk1 c P R I U) : ∀ {ks : List Cut} {S T : List Int}, St c S → (∀ x ∈ U, x ∈ S) → goes c P R S ks T → (∀ x ∈ I, x ∈ T) → ∀ x ∈ U, x ∈ T
  | [], S, T, _, hU, h, _ => by
    have h : S = T := h
    rw [← h]
    exact hU
  | k :: ks, S, T, hS, hU, h, hI => blk_path B (ks := ks) h.1.1 (blk_keep hc B hS hU h.1 fun x hx => goes_sub h.2 x (hI x hx)) h.2 hI
include hc in
/-- what is blocked by more names is not come to -/
theorem blk_no {L U : List Int} (B : Blk1 c P R L U) (hL : Up L) (ne : L ≠ U) {ks : List Cut} {S : List Int} (hS : St c S) (hU : ∀ x ∈ U, x ∈ S) (h : goes c P R S ks L) : False :=
  ne (up_eq hL B.st.2 fun x => ⟨B.sub x, blk_path hc B hS hU h (fun _ h => h) x⟩)
end
/-! ### sets told by their look -/
theorem is_st {c : Nat} {M : List Int} (h : isSetB (c : Int) M = true) : St c M := by
  unfold isSetB at h
  rw [List.all_eq_true] at h
  have at_ : ∀ k (hk : k < M.length), 0 ≤ M[k] ∧ M[k] < (c : Int) ∧ (0 < k → gI M (k - 1) < M[k]) := fun k hk => by
    have q := h k (List.mem_range.mpr hk)
    have e : gI M k = M[k] := by unfold gI; rw [List.getElem?_eq_getElem hk]; rfl
    rw [Bool.not_eq_true', Bool.or_eq_false_iff, Bool.or_eq_false_iff, Bool.and_eq_false_iff, decide_eq_false_iff_not, decide_eq_false_iff_not, decide_eq_false_iff_not, decide_eq_false_iff_not, e] at q
    omega
  refine ⟨fun x hx => ?_, ?_⟩
  · obtain ⟨k, hk, rfl⟩ := List.getElem_of_mem hx
    exact ⟨(at_ k hk).1, (at_ k hk).2.1⟩
  · refine List.pairwise_iff_getElem.mpr fun i j hi hj hij => ?_
    have go : ∀ d (hd : i + d + 1 < M.length), M[i] < M[i + d + 1] := fun d => by
      induction d with
      | zero =>
        intro hd
        have := (at_ (i + 1) hd).2.2 (by omega)
        have e : gI M (i + 1 - 1) = M[i] := by unfold gI; rw [Nat.add_sub_cancel, List.getElem?_eq_getElem hi]; rfl
        rw [e] at this
        exact this
      | succ d ih =>
        intro hd
        have h1 := ih (by omega)
        have h2 := (at_ (i + (d + 1) + 1) hd).2.2 (by omega)
        have hd' : i + d + 1 < M.length := by omega
        have e : gI M (i + (d + 1) + 1 - 1) = M[i + d + 1] := by
          unfold gI
          rw [show i + (d + 1) + 1 - 1 = i + d + 1 by omega, List.getElem?_eq_getElem hd']
          rfl
        rw [e] at h2
        exact Int.lt_trans h1 h2
    obtain ⟨d, rfl⟩ : ∃ d, j = i + d + 1 := ⟨j - i - 1, by omega⟩
    exact go d hj
theorem is_st_iff {c : Nat} {M : List Int} : isSetB (c : Int) M = true ↔ St c M := ⟨is_st, fun h => h.is⟩
end Dg

/-! Plain steps: lists of lists, dicts, pop, zip. -/
namespace Dg
open PySem L2
section
variable {cl : Cl} {e : Env} {b : Blk} {R : Rt}
theorem nx_new2I {fz own : List Nat} {i : Nat} {tg : Tg} {a : Ex} {j : Int} (h : evalE cl a (frz fz e) = .ok (.sh (.int j))) (hj : rOk j ∧ j.toNat ≤ LIM) (h2 : execB cl b ((frz fz e).set i (some (.l2 (List.replicate j.toNat [])))) = R) : execB cl (.cons (.new2 fz i own tg a) b) e = R := by
  refine (blk_nx ?_).trans h2
  rw [execS, h]
  exact if_pos hj
theorem nx_new2 {fz own : List Nat} {i : Nat} {tg : Tg} {a : Ex} {j : Nat} (h : evalE cl a (frz fz e) = .ok (.sh (.int (j : Int)))) (hj : j ≤ 1000000) (h2 : execB cl b ((frz fz e).set i (some (.l2 (List.replicate j [])))) = R) : execB cl (.cons (.new2 fz i own tg a) b) e = R := by
  refine nx_new2I h (by unfold rOk LIM; omega) ?_
  rw [Int.toNat_natCast]
  exact h2
theorem nx_app2 {fz : List Nat} {i : Nat} {k a : Ex} {dss : List (List Dv)} {j : Int} {p : Nat} {ds : List Dv} {d : Dv} {sv : Sv} (hs : slot (frz fz e) i = some (.l2 dss)) (hk : evalE cl k (frz fz e) = .ok (.sh (.int j))) (hp : ixN dss.length j = some p) (hd : dss[p]? = some ds) (ha : evalE cl a (frz fz e) = .ok sv) (hsh : sv.share = some d) (hl : ds.length < LIM)
    (h2 : execB cl b ((frz fz e).set i (some (.l2 (dss.set p (ds ++ [d]))))) = R) : execB cl (.cons (.app2 fz i k a) b) e = R := by
  refine (blk_nx ?_).trans h2
  rw [execS, hs]
  show (evalE cl k (frz fz e)).inE (frz fz e) _ = _
  rw [hk]
  show (match ixN dss.length j with
    | some p => match dss[p]? with
      | some ds => (evalE cl a (frz fz e)).inE (frz fz e) fun x => match x.share with
        | some d => if ds.length < LIM then Rt.nx ((frz fz e).set i (some (.l2 (dss.set p (ds ++ [d]))))) else .no
        | none => .no
      | none => .no
    | none => .no) = _
  rw [hp]
  show (match dss[p]? with
      | some ds => (evalE cl a (frz fz e)).inE (frz fz e) fun x => match x.share with
        | some d => if ds.length < LIM then Rt.nx ((frz fz e).set i (some (.l2 (dss.set p (ds ++ [d]))))) else .no
        | none => .no
      | none => .no) = _
  rw [hd]
  show (evalE cl a (frz fz e)).inE (frz fz e) _ = _
  rw [ha]
  show (match sv.share with
        | some d => if ds.length < LIM then Rt.nx ((frz fz e).set i (some (.l2 (dss.set p (ds ++ [d]))))) else .no
        | none => .no) = _
  rw [hsh]
  exact if_pos hl
theorem nx_setD {fz : List Nat} {i : Nat} {k a : Ex} {kvs : List (Dv × Dv)} {j : Int} {d : Dv} {sv : Sv} (hs : slot (frz fz e) i = some (.d1 kvs)) (ha : evalE cl a (frz fz e) = .ok sv) (hsh : sv.share = some d) (hk : evalE cl k (frz fz e) = .ok (.sh (.int j))) (hl : kvs.length < LIM)
    (h2 : execB cl b ((frz fz e).set i (some (.d1 (putI j d kvs)))) = R) : execB cl (.cons (.seti fz i k a) b) e = R := by
  refine (blk_nx ?_).trans h2
  rw [execS, hs]
  show (evalE cl a (frz fz e)).inE (frz fz e) _ = _
  rw [ha]
  show (match sv.share with
      | some d => (evalE cl k (frz fz e)).inE (frz fz e) fun y => match y.toD with
        | .int j => if kvs.length < LIM then Rt.nx ((frz fz e).set i (some (.d1 (putI j d kvs)))) else .no
        | _ => .no
      | none => .no) = _
  rw [hsh]
  show (evalE cl k (frz fz e)).inE (frz fz e) _ = _
  rw [hk]
  exact if_pos hl
theorem nx_setL {fz : List Nat} {i : Nat} {k a : Ex} {ds : List Dv} {j : Int} {p : Nat} {d : Dv} {sv : Sv} (hs : slot (frz fz e) i = some (.l1 ds)) (ha : evalE cl a (frz fz e) = .ok sv) (hsh : sv.share = some d) (hk : evalE cl k (frz fz e) = .ok (.sh (.int j))) (hp : ixN ds.length j = some p)
    (h2 : execB cl b ((frz fz e).set i (some (.l1 (ds.set p d)))) = R) : execB cl (.cons (.seti fz i k a) b) e = R := by
  refine (blk_nx ?_).trans h2
  rw [execS, hs]
  show (evalE cl a (frz fz e)).inE (frz fz e) _ = _
  rw [ha]
  show (match sv.share with
      | some d => (evalE cl k (frz fz e)).inE (frz fz e) fun y => match y.toD with
        | .int j => match ixN ds.length j with
          | some p => Rt.nx ((frz fz e).set i (some (.l1 (ds.set p d))))
          | none => .no
        | _ => .no
      | none => .no) = _
  rw [hsh]
  show (evalE cl k (frz fz e)).inE (frz fz e) _ = _
  rw [hk]
  show (match ixN ds.length j with
          | some p => Rt.nx ((frz fz e).set i (some (.l1 (ds.set p d))))
          | none => .no) = _
  rw [hp]
/-- x = xs.pop(0) -/
theorem nx_pop0 {fz : List Nat} {i j : Nat} {k : Ex} {d : Dv} {ds : List Dv} (hs : slot (frz fz e) j = some (.l1 (d :: ds))) (hk : evalE cl k (frz fz e) = .ok (.sh (.int 0)))
    (h2 : execB cl b (((frz fz e).set j (some (.l1 ds))).set i (some (.sh d))) = R) : execB cl (.cons (.popA fz (.nm i false) j (.som k)) b) e = R := by
  refine (blk_nx ?_).trans h2
  rw [execS, hs]
  show (evalO cl (.som k) (frz fz e)).inE (frz fz e) _ = _
  rw [eo_som hk rfl]
  show (match popI (d :: ds) (some 0) with
      | some (d, ys) => match bindD (.nm i false) d ((frz fz e).set j (some (.l1 ys))) with
        | some e1 => Rt.nx e1
        | none => .no
      | none => .no) = _
  have : popI (d :: ds) (some 0) = some (d, ds) := by
    unfold popI ixN
    simp
  rw [this]
  rfl
theorem ev_inR {neg : Bool} {a n : Ex} {i j : Int} (ha : evalE cl a e = .ok (.sh (.int i))) (hn : evalE cl n e = .ok (.sh (.int j))) : evalE cl (.inR neg a n) e = .ok (.sh (.bl (if neg then !decide (0 ≤ i ∧ i < j) else decide (0 ≤ i ∧ i < j)))) := by
  rw [evalE, ha]
  show ((evalE cl n e).bind fun y => match (Sv.sh (Dv.int i)).toD, y.toD with
    | .int i, .int j => Rs.ok (Sv.sh (.bl (if neg then !decide (0 ≤ i ∧ i < j) else decide (0 ≤ i ∧ i < j))))
    | _, _ => .no) = _
  rw [hn]
  rfl
theorem ints_of (l : List Int) : intsOf (l.map Dv.int) = some l := by
  induction l with
  | nil => rfl
  | cons x r ih =>
    show (intsOf (r.map Dv.int)).map (x :: ·) = _
    rw [ih]
    rfl
theorem ev_lset {a : Ex} {l : List Int} (ha : evalE cl a e = .ok (.sh (td l))) (hl : l.length < 64) : evalE cl (.lset a) e = .ok (.sh (.int ((ddI l).length : Int))) := by
  rw [evalE, ha]
  show lsetD (l.map Dv.int) = _
  unfold lsetD
  rw [ints_of]
  exact if_pos hl
theorem ev_dct0 : evalE cl .dct0 e = .ok (.d1 []) := by rw [evalE]
theorem s_rng2I {k : Bool} {a n : Ex} {i j : Int} (ha : evalE cl a e = .ok (.sh (.int i))) (hn : evalE cl n e = .ok (.sh (.int j))) (h3 : rOk i ∧ rOk j ∧ (j - i).toNat ≤ LIM) : evalS cl k (.rng2 a n) e = .ok (rngI i j) := by
  rw [evalS, ha]
  show ((evalE cl n e).bind fun y => match (Sv.sh (Dv.int i)).toD, y.toD with
    | .int i, .int j => if rOk i ∧ rOk j ∧ (j - i).toNat ≤ LIM then Rs.ok (rngI i j) else .no
    | _, _ => .no) = _
  rw [hn]
  exact if_pos h3
theorem s_rng2N {k : Bool} {a n : Ex} {x m : Nat} (ha : evalE cl a e = .ok (.sh (.int (x : Int)))) (hn : evalE cl n e = .ok (.sh (.int (m : Int)))) (hx : x ≤ 1000000) (hm : m ≤ 1000000) : evalS cl k (.rng2 a n) e = .ok ((List.range' x (m - x)).map fun (i : Nat) => Dv.int (i : Int)) := by
  rw [s_rng2I ha hn (by unfold rOk LIM; omega)]
  unfold rngI
  rw [show ((m : Int) - (x : Int)).toNat = m - x by omega, List.range'_eq_map_range, List.map_map]
  congr 1
theorem s_zipL {k : Bool} {a c : Ex} {x y : Sv} {xs ys : List Dv} (ha : evalE cl a e = .ok x) (hc : evalE cl c e = .ok y) (hx : viewS k x = some (.lst xs)) (hy : viewS k y = some (.lst ys)) : evalS cl k (.zip a c) e = .ok (zipI xs ys) := by
  rw [evalS, ha]
  show ((evalE cl c e).bind fun y => (ofO (viewS k x)).bind fun c => (ofO (viewS k y)).bind fun d => (zip2 c d).bind fun z => Rs.ok z) = _
  rw [hc]
  show ((ofO (viewS k x)).bind fun c => (ofO (viewS k y)).bind fun d => (zip2 c d).bind fun z => Rs.ok z) = _
  rw [hx, hy]
  rfl
theorem nx_try {x : Blk} {C i j : Nat} {e1 : Env} (h : execB cl x e = .nx e1) (h2 : execB cl b e1 = R) : execB cl (.cons (.try_ x C i j) b) e = R :=
  (blk_nx (by rw [execS, h])).trans h2
theorem nx_tryE {x : Blk} {C i j D : Nat} {e1 : Env} (h : execB cl x e = .ex D none e1) (hs : cl.sub D C = some true) (h2 : execB cl b ((e1.set i none).set j (some (.sh (.exc D none)))) = R) : execB cl (.cons (.try_ x C i j) b) e = R :=
  (blk_nx (by rw [execS, h]; show (match cl.sub D C with | some true => _ | some false => _ | none => _) = _; rw [hs])).trans h2
end
theorem dd_iff (l : List Int) : ((ddI l).length < l.length) ↔ ¬ l.Nodup := by
  have le := ddI_le l
  constructor
  · intro h nd
    have : ddI l = l := by
      clear le h
      induction l with
      | nil => rfl
      | cons x r ih =>
        obtain ⟨h1, h2⟩ := List.nodup_cons.mp nd
        unfold ddI
        rw [if_neg h1, ih h2]
    rw [this] at h
    omega
  · intro h
    rcases Nat.lt_or_ge (ddI l).length l.length with z | z
    · exact z
    · refine absurd ?_ h
      clear h
      induction l with
      | nil => exact List.nodup_nil
      | cons x r ih =>
        have := ddI_le r
        unfold ddI at z le
        split at z
        · rw [List.length_cons] at z; omega
        · rename_i hx
          rw [List.length_cons, List.length_cons] at z
          exact List.nodup_cons.mpr ⟨hx, ih (ddI_le r) (by omega)⟩
theorem ixN_nat {n j : Nat} (h : j < n) : ixN n (j : Int) = some j := by
  unfold ixN
  rw [if_pos (by omega), if_pos (by omega)]
  simp
end Dg

/-! Plain: things that are told as data, one and several; roads. -/
namespace Dg
open PySem L2
/-- things that are equal where their data are -/
structure Enc {α : Type} [DecidableEq α] (D : α → Dv) : Prop where
  eq : ∀ a b, eqD (D a) (D b) = decide (a = b)
  lay : ∀ a, (toP (D a)).canLay0 = true
  dep : ∀ a, (toP (D a)).depth ≤ 8
section
variable {α : Type} [DecidableEq α] {D : α → Dv} (E : Enc D)
include E
theorem Enc.all (l : List α) : PyData.canLayAll0 (toPs (l.map D)) = true ∧ PyData.depthAll (toPs (l.map D)) ≤ 8 := by
  induction l with
  | nil => exact ⟨rfl, Nat.zero_le _⟩
  | cons x r ih =>
    refine ⟨?_, ?_⟩
    · show (PyData.canLay0 (toP (D x)) && PyData.canLayAll0 (toPs (r.map D))) = true
      rw [E.lay x, ih.1]
      rfl
    · have := E.dep x
      have := ih.2
      show max (PyData.depth (toP (D x))) (PyData.depthAll (toPs (r.map D))) ≤ 8
      omega
theorem Enc.ok (a : α) : okD (D a) = true := by
  have h := E.dep a
  show (PyData.canLay0 (toP (D a)) && decide (PyData.depth (toP (D a)) ≤ 64)) = true
  rw [E.lay a, decide_eq_true (by omega)]
  rfl
theorem Enc.okL (l : List α) : okD (.lst (l.map D)) = true := by
  have h := (E.all l).2
  have h2 : PyData.depth (.list (toPs (l.map D))) ≤ 64 := by unfold PyData.depth; omega
  show (PyData.canLayAll0 (toPs (l.map D)) && decide (PyData.depth (.list (toPs (l.map D))) ≤ 64)) = true
  rw [(E.all l).1, decide_eq_true h2]
  rfl
theorem Enc.okT (l : List α) : okD (.tup (l.map D)) = true := by
  have h := (E.all l).2
  have h2 : PyData.depth (.tuple (toPs (l.map D))) ≤ 64 := by unfold PyData.depth; omega
  show (PyData.canLayAll0 (toPs (l.map D)) && decide (PyData.depth (.tuple (toPs (l.map D))) ≤ 64)) = true
  rw [(E.all l).1, decide_eq_true h2]
  rfl
theorem Enc.any (a : α) (l : List α) : ((l.map D).any fun z => eqD z (D a)) = decide (a ∈ l) := by
  rw [List.any_map]
  have e : ((fun z => eqD z (D a)) ∘ D) = fun z => decide (z = a) := by
    funext z
    exact E.eq z a
  rw [e]
  by_cases h : a ∈ l
  · rw [decide_eq_true h, List.any_eq_true]
    exact ⟨a, h, by simp⟩
  · rw [decide_eq_false h, List.any_eq_false]
    intro z hz
    simp
    rintro rfl
    exact h hz
theorem Enc.inL (a : α) (l : List α) : cmpop .In (D a) (.lst (l.map D)) = .ok (decide (a ∈ l)) := by
  show (if okD (D a) && okD (.lst (l.map D)) then Rs.ok ((l.map D).any fun z => eqD z (D a)) else .no) = _
  rw [E.ok, E.okL, E.any]
  rfl
theorem Enc.ninL (a : α) (l : List α) : cmpop .NotIn (D a) (.lst (l.map D)) = .ok (!decide (a ∈ l)) := by
  show (if okD (D a) && okD (.lst (l.map D)) then Rs.ok (!(l.map D).any fun z => eqD z (D a)) else .no) = _
  rw [E.ok, E.okL, E.any]
  rfl
theorem Enc.inT (a : α) (l : List α) : cmpop .In (D a) (.tup (l.map D)) = .ok (decide (a ∈ l)) := by
  show (if okD (D a) && okD (.tup (l.map D)) then Rs.ok ((l.map D).any fun z => eqD z (D a)) else .no) = _
  rw [E.ok, E.okT, E.any]
  rfl
theorem Enc.ninT (a : α) (l : List α) : cmpop .NotIn (D a) (.tup (l.map D)) = .ok (!decide (a ∈ l)) := by
  show (if okD (D a) && okD (.tup (l.map D)) then Rs.ok (!(l.map D).any fun z => eqD z (D a)) else .no) = _
  rw [E.ok, E.okT, E.any]
  rfl
theorem Enc.eqs : ∀ a b : List α, PyData.eqvAll (toPs (a.map D)) (toPs (b.map D)) = decide (a = b)
  | [], [] => rfl
  | [], _ :: _ => rfl
  | _ :: _, [] => rfl
  | x :: a, y :: b => by
    show (PyData.eqv (toP (D x)) (toP (D y)) && PyData.eqvAll (toPs (a.map D)) (toPs (b.map D))) = _
    rw [Enc.eqs a b]
    have e : PyData.eqv (toP (D x)) (toP (D y)) = decide (x = y) := E.eq x y
    rw [e]
    by_cases h : x = y <;> by_cases h2 : a = b <;> simp [h, h2]
theorem Enc.eqL (a b : List α) : cmpop .Eq (.lst (a.map D)) (.lst (b.map D)) = .ok (decide (a = b)) := by
  show (if okD (.lst (a.map D)) && okD (.lst (b.map D)) then Rs.ok (PyData.eqvAll (toPs (a.map D)) (toPs (b.map D))) else .no) = _
  rw [E.okL, E.okL, E.eqs]
  rfl
theorem Enc.neL (a b : List α) : cmpop .NotEq (.lst (a.map D)) (.lst (b.map D)) = .ok (!decide (a = b)) := by
  show (if okD (.lst (a.map D)) && okD (.lst (b.map D)) then Rs.ok (!PyData.eqvAll (toPs (a.map D)) (toPs (b.map D))) else .no) = _
  rw [E.okL, E.okL, E.eqs]
  rfl
end
/-- a for loop that returns the first thing found -/
theorem for_find {α β J : Type} {tg : Tg} {b : Env → Rt} (D : α → Dv) (E : J → Env) (g : α → Option β) (V : β → Sv → Prop) : ∀ (xs : List α) (j : J), (∀ (a : α) (j : J), a ∈ xs → ∃ e1, bindD tg (D a) (E j) = some e1 ∧ ((g a = none ∧ ∃ j', b e1 = .nx (E j')) ∨ (∃ v sv e2, g a = some v ∧ V v sv ∧ b e1 = .rt sv e2))) →
    (xs.findSome? g = none ∧ ∃ j', forI tg b (xs.map D) (E j) = .nx (E j')) ∨ (∃ v sv e2, xs.findSome? g = some v ∧ V v sv ∧ forI tg b (xs.map D) (E j) = .rt sv e2)
  | [], j, _ => .inl ⟨rfl, j, for_nil⟩
  | a :: r, j, h => by
    obtain ⟨e1, h1, h2⟩ := h a j List.mem_cons_self
    rcases h2 with ⟨h2, j', h3⟩ | ⟨v, sv, e2, h2, h3, h4⟩
    · rcases for_find D E g V r j' (fun a j ha => h a j (List.mem_cons_of_mem _ ha)) with ⟨h4, j2, h5⟩ | ⟨v, sv, e2, h4, h5, h6⟩
      · exact .inl ⟨by rw [List.findSome?_cons, h2]; exact h4, j2, (for_nx h1 h3).trans h5⟩
      · exact .inr ⟨v, sv, e2, by rw [List.findSome?_cons, h2]; exact h4, h5, (for_nx h1 h3).trans h6⟩
    · exact .inr ⟨v, sv, e2, by rw [List.findSome?_cons, h2], h3, for_rt h1 h4⟩
/-! ### standings and steps -/
abbrev sdD (q : Int × Bool) : Dv := .tup [.int q.1, .bl q.2]
theorem enc_sd : Enc sdD where
  eq a b := by
    show (PyData.eqv (.int a.1) (.int b.1) && (PyData.eqv (.bool a.2) (.bool b.2) && true)) = _
    have e1 : PyData.eqv (.int a.1) (.int b.1) = decide (a.1 = b.1) := eq_int _ _
    have e2 : PyData.eqv (.bool a.2) (.bool b.2) = decide (a.2 = b.2) := eq_bl _ _
    rw [e1, e2, Bool.and_true, ← Bool.decide_and]
    exact decide_eq_decide.mpr Prod.ext_iff.symm
  lay a := rfl
  dep a := by
    show PyData.depth (.tuple [.int a.1, .bool a.2]) ≤ 8
    simp [PyData.depth, PyData.depthAll]
theorem enc_tp : Enc tp where
  eq a b := (eq_td (pr a) (pr b)).trans (decide_eq_decide.mpr ⟨fun h => by injection h with h1 h; injection h with h2 _; exact Prod.ext h1 h2, fun h => by rw [h]⟩)
  lay a := rfl
  dep a := Nat.le_trans (dep_td (pr a)) (by decide)
inductive Kd where
  | dn | up | bw | ov
  deriving DecidableEq
abbrev kdD : Kd → Dv
  | .dn => .str "down"
  | .up => .str "up"
  | .bw => .str "bow"
  | .ov => .str "over"
abbrev Step := Int × Kd × Int
abbrev stD (s : Step) : Dv := .tup [.int s.1, kdD s.2.1, .int s.2.2]
theorem eq_kd (a b : Kd) : PyData.eqv (toP (kdD a)) (toP (kdD b)) = decide (a = b) := by cases a <;> cases b <;> decide +kernel
theorem enc_st : Enc stD where
  eq a b := by
    show (PyData.eqv (.int a.1) (.int b.1) && (PyData.eqv (toP (kdD a.2.1)) (toP (kdD b.2.1)) && (PyData.eqv (.int a.2.2) (.int b.2.2) && true))) = _
    have e1 : PyData.eqv (.int a.1) (.int b.1) = decide (a.1 = b.1) := eq_int _ _
    have e3 : PyData.eqv (.int a.2.2) (.int b.2.2) = decide (a.2.2 = b.2.2) := eq_int _ _
    rw [e1, eq_kd, e3, Bool.and_true, ← Bool.decide_and, ← Bool.decide_and]
    exact decide_eq_decide.mpr ⟨fun ⟨h1, h2, h3⟩ => Prod.ext h1 (Prod.ext h2 h3), fun h => h ▸ ⟨rfl, rfl, rfl⟩⟩
  lay a := by
    have h : ∀ k, PyData.canLay0 (toP (kdD k)) = true := by intro k; cases k <;> decide +kernel
    show (true && (PyData.canLay0 (toP (kdD a.2.1)) && (true && true))) = true
    rw [h]
    rfl
  dep a := by
    have h : ∀ k, PyData.depth (toP (kdD k)) = 0 := by intro k; cases k <;> simp [kdD, toP, PyData.depth]
    show PyData.depth (.tuple [.int a.1, toP (kdD a.2.1), .int a.2.2]) ≤ 8
    simp [PyData.depth, PyData.depthAll, h]
/-! ### what a drawing's roads are made of -/
abbrev flw (P : List (Int × Int)) (i : Int) : List Int := (P.filter fun p => decide (p.1 = i)).map Prod.snd
abbrev srcs (P : List (Int × Int)) (i : Int) : List Int := (P.filter fun p => decide (p.2 = i)).map Prod.fst
def bwStep (i : Int) (f : List Int) (p : Int × Int) : List Int :=
  if p.2 = i then (if p.1 = i then f ++ [p.2] else f) ++ [p.1] else if p.1 = i then f ++ [p.2] else f
def bwd (R : List (Int × Int)) (i : Int) : List Int := R.foldl (bwStep i) []
theorem flw_mem {P : List (Int × Int)} {i x : Int} : x ∈ flw P i ↔ (i, x) ∈ P := by
  unfold flw
  rw [List.mem_map]
  constructor
  · rintro ⟨⟨a, b⟩, h, rfl⟩
    rw [List.mem_filter] at h
    have := of_decide_eq_true h.2
    dsimp only at this
    subst this
    exact h.1
  · intro h
    exact ⟨(i, x), List.mem_filter.mpr ⟨h, decide_eq_true rfl⟩, rfl⟩
theorem srcs_mem {P : List (Int × Int)} {i x : Int} : x ∈ srcs P i ↔ (x, i) ∈ P := by
  unfold srcs
  rw [List.mem_map]
  constructor
  · rintro ⟨⟨a, b⟩, h, rfl⟩
    rw [List.mem_filter] at h
    have := of_decide_eq_true h.2
    dsimp only at this
    subst this
    exact h.1
  · intro h
    exact ⟨(x, i), List.mem_filter.mpr ⟨h, decide_eq_true rfl⟩, rfl⟩
theorem bw_step {i x : Int} {f : List Int} {p : Int × Int} : x ∈ bwStep i f p ↔ x ∈ f ∨ p = (i, x) ∨ p = (x, i) := by
  obtain ⟨a, b⟩ := p
  unfold bwStep
  by_cases h1 : b = i <;> by_cases h2 : a = i <;> simp [h1, h2] <;> grind
theorem bw_fold {i x : Int} : ∀ {R : List (Int × Int)} {f : List Int}, x ∈ R.foldl (bwStep i) f ↔ x ∈ f ∨ (i, x) ∈ R ∨ (x, i) ∈ R
  | [], f => by simp
  | p :: R, f => by
    rw [List.foldl_cons, bw_fold, bw_step]
    simp only [List.mem_cons]
    grind
theorem bwd_mem {R : List (Int × Int)} {i x : Int} : x ∈ bwd R i ↔ (i, x) ∈ R ∨ (x, i) ∈ R := by
  unfold bwd
  rw [bw_fold]
  simp
theorem bw_len (i : Int) : ∀ (R : List (Int × Int)) (f : List Int), (R.foldl (bwStep i) f).length ≤ f.length + 2 * R.length
  | [], f => by simp
  | p :: R, f => by
    have h := bw_len i R (bwStep i f p)
    have h2 : (bwStep i f p).length ≤ f.length + 2 := by
      unfold bwStep
      split <;> split <;> simp
    rw [List.foldl_cons, List.length_cons]
    omega
theorem bwd_len (R : List (Int × Int)) (i : Int) : (bwd R i).length ≤ 2 * R.length := by
  have h := bw_len i R []
  rw [List.length_nil] at h
  unfold bwd
  omega
theorem flw_len (P : List (Int × Int)) (i : Int) : (flw P i).length ≤ P.length := by
  rw [List.length_map]
  exact List.length_filter_le _ _
theorem srcs_len (P : List (Int × Int)) (i : Int) : (srcs P i).length ≤ P.length := by
  rw [List.length_map]
  exact List.length_filter_le _ _
abbrev asT (x : Int) : Int × Bool := (x, true)
abbrev asF (x : Int) : Int × Bool := (x, false)
/-- the standings that a standing asks for -/
def ledF (P R : List (Int × Int)) (G A : List Int) (q : Int × Bool) : List (Int × Bool) :=
  (if q.1 ∈ G then [] else (flw P q.1).map asT) ++ (if (q.2 = true ∧ q.1 ∈ A) ∨ (q.2 = false ∧ q.1 ∉ G) then (srcs P q.1).map asF ++ (bwd R q.1).map asT else [])
abbrev byK (x : Int) (k : Kd) (y : Int) : Step := (x, k, y)
def stepsF (P R : List (Int × Int)) (x : Int) : List Step := (flw P x).map (byK x .dn) ++ (srcs P x).map (byK x .up) ++ (bwd R x).map (byK x .bw)
theorem steps_mem {P R : List (Int × Int)} {x : Int} {s : Step} : s ∈ stepsF P R x ↔ s.1 = x ∧ ((s.2.1 = .dn ∧ (x, s.2.2) ∈ P) ∨ (s.2.1 = .up ∧ (s.2.2, x) ∈ P) ∨ (s.2.1 = .bw ∧ ((x, s.2.2) ∈ R ∨ (s.2.2, x) ∈ R))) := by
  unfold stepsF
  rw [List.mem_append, List.mem_append, List.mem_map, List.mem_map, List.mem_map]
  obtain ⟨a, k, b⟩ := s
  constructor
  · rintro ((⟨y, h, e⟩ | ⟨y, h, e⟩) | ⟨y, h, e⟩) <;> cases e
    · exact ⟨rfl, .inl ⟨rfl, flw_mem.mp h⟩⟩
    · exact ⟨rfl, .inr (.inl ⟨rfl, srcs_mem.mp h⟩)⟩
    · exact ⟨rfl, .inr (.inr ⟨rfl, bwd_mem.mp h⟩)⟩
  · rintro ⟨rfl, ⟨h1, h2⟩ | ⟨h1, h2⟩ | ⟨h1, h2⟩⟩ <;> cases h1
    · exact .inl (.inl ⟨b, flw_mem.mpr h2, rfl⟩)
    · exact .inl (.inr ⟨b, srcs_mem.mpr h2, rfl⟩)
    · exact .inr ⟨b, bwd_mem.mpr h2, rfl⟩
def inK : Kd → Bool
  | .dn => true
  | .bw => true
  | _ => false
def outK : Kd → Bool
  | .up => true
  | .bw => true
  | _ => false
def meetB (s t : Step) : Bool := inK s.2.1 && outK t.2.1
def goesB (G A : List Int) (s t : Step) : Bool := if meetB s t then decide (s.2.2 ∈ A) else !decide (s.2.2 ∈ G)
def goesO (G A : List Int) : Option Step → Step → Bool
  | none, _ => true
  | some s, t => goesB G A s t
section
variable (P R : List (Int × Int)) (G A O : List Int)
def roadF : Nat → List Step → List Int → Int → Option (List Step)
  | 0, _, _, _ => none
  | k + 1, road, pre, x => (stepsF P R x).findSome? fun a => if a.2.2 ∉ pre ++ [x] ∧ goesO G A road.getLast? a = true then (if a.2.2 ∈ O then some (road ++ [a]) else roadF k (road ++ [a]) (pre ++ [x]) a.2.2) else none
def openF (N : List Int) : Option (List Step) := N.findSome? fun x => roadF P R G A O 7 [] [] x
end
/-- the ancestors as they are told -/
abbrev ancL (P : List (Int × Int)) (G : List Int) : List Int := (passF ((P.map swp).mergeSort leP).reverse G).mergeSort leZ
/-- a way down from x, in order, that ends at a -/
inductive Wy (P : List (Int × Int)) (G : List Int) (x : Int) : List Int → Int → Prop
  | one : Wy P G x [x] x
  | snoc {w : List Int} {a b : Int} : Wy P G x w a → a ∉ G → (a, b) ∈ P → Wy P G x (w ++ [b]) b
def metF (rd : List Step) : List Int := (List.range (rd.length - 1)).filterMap fun k => match rd[k]?, rd[k + 1]? with
  | some s, some t => if meetB s t then some s.2.2 else none
  | _, _ => none
/-! ### loops that raise -/
theorem for_exx {tg : Tg} {b : Env → Rt} {d : Dv} {r : List Dv} {e e1 e2 : Env} {C : Nat} {t : Option Int} (h1 : bindD tg d e = some e1) (h2 : b e1 = .ex C t e2) : forI tg b (d :: r) e = .ex C t e2 := by
  rw [forI, h1]
  show (match b e1 with
      | .nx e2 => forI tg b r e2
      | .ct e2 => forI tg b r e2
      | .bk e2 => .nx e2
      | r => r) = _
  rw [h2]
theorem nx_forX {cl : Cl} {fz : List Nat} {tg : Tg} {s : Src} {x b : Blk} {e e1 : Env} {ds : List Dv} {C : Nat} {t : Option Int} (h : evalS cl true s (frz fz e) = .ok ds) (h2 : forI tg (execB cl x) ds (frz fz e) = .ex C t e1) : execB cl (.cons (.for fz tg s x) b) e = .ex C t e1 := blk_ex ((st_for h).trans h2)
theorem for_raise {α J : Type} {tg : Tg} {b : Env → Rt} (D : α → Dv) (E : J → Env) (p : α → Bool) (C : Nat) : ∀ (xs : List α) (j : J), (∀ (a : α) (j : J), a ∈ xs → ∃ e1, bindD tg (D a) (E j) = some e1 ∧ ((p a = true ∧ ∃ j', b e1 = .nx (E j')) ∨ (p a = false ∧ ∃ e2, b e1 = .ex C none e2))) →
    (xs.all p = true ∧ ∃ j', forI tg b (xs.map D) (E j) = .nx (E j')) ∨ (xs.all p = false ∧ ∃ e2, forI tg b (xs.map D) (E j) = .ex C none e2)
  | [], j, _ => .inl ⟨rfl, j, for_nil⟩
  | a :: r, j, h => by
    obtain ⟨e1, h1, h2⟩ := h a j List.mem_cons_self
    rcases h2 with ⟨h2, j', h3⟩ | ⟨h2, e2, h3⟩
    · rcases for_raise D E p C r j' (fun a j ha => h a j (List.mem_cons_of_mem _ ha)) with ⟨h4, j2, h5⟩ | ⟨h4, e2, h5⟩
      · exact .inl ⟨by rw [List.all_cons, h2, h4]; rfl, j2, (for_nx h1 h3).trans h5⟩
      · exact .inr ⟨by rw [List.all_cons, h4, Bool.and_false], e2, (for_nx h1 h3).trans h5⟩
    · exact .inr ⟨by rw [List.all_cons, h2]; rfl, e2, for_exx h1 h3⟩
/-! ### dicts of seen names -/
abbrev kD (ks : List Int) : List (Dv × Dv) := ks.map fun k => (Dv.int k, Dv.bl true)
theorem key_kD (a : Int) (ks : List Int) : ((kD ks).any fun p => isKey a p.1) = decide (a ∈ ks) := by
  rw [List.any_map]
  by_cases h : a ∈ ks
  · rw [decide_eq_true h, List.any_eq_true]
    exact ⟨a, h, decide_eq_true rfl⟩
  · rw [decide_eq_false h, List.any_eq_false]
    intro z hz hk
    exact h (of_decide_eq_true hk ▸ hz)
theorem in_kD (a : Int) (ks : List Int) : cmpop .In (.int a) (.dct (kD ks)) = .ok (decide (a ∈ ks)) := by
  show Rs.ok ((kD ks).any fun p => isKey a p.1) = _
  rw [key_kD]
theorem put_kD {a : Int} {ks : List Int} (h : a ∉ ks) : putI a (.bl true) (kD ks) = kD (ks ++ [a]) := by
  unfold putI
  rw [key_kD, decide_eq_false h, if_neg (by decide)]
  exact (List.map_append (f := fun k => (Dv.int k, Dv.bl true)) (l₁ := ks) (l₂ := [a])).symm
/-! ### range with a step, sorted(set(..)), list * int -/
theorem s_rngC {cl : Cl} {e : Env} {k : Bool} {a b : Ex} {i j s : Int} {n : Nat} (ha : evalE cl a e = .ok (.sh (.int i))) (hb : evalE cl b e = .ok (.sh (.int j)))
    (h : (s ≠ 0 ∧ s.natAbs < 1073741824 ∧ Builtin.Range.small i j s = true ∧ Builtin.Range.rangeSize i j s = (n : Int)) ∧ n ≤ LIM) : evalS cl k (.rngC a b s) e = .ok (rngS i s n) := by
  rw [evalS, ha]
  show ((evalE cl b e).bind fun y => match (Sv.sh (Dv.int i)).toD, y.toD with
    | .int i, .int j => if (s ≠ 0 ∧ s.natAbs < 1073741824 ∧ Builtin.Range.small i j s = true ∧ Builtin.Range.rangeSize i j s = ((Builtin.Range.rangeSize i j s).toNat : Int)) ∧ (Builtin.Range.rangeSize i j s).toNat ≤ LIM then Rs.ok (rngS i s (Builtin.Range.rangeSize i j s).toNat) else .no
    | _, _ => .no) = _
  rw [hb]
  have e1 : (Builtin.Range.rangeSize i j s).toNat = n := by rw [h.1.2.2.2]; rfl
  show (if (s ≠ 0 ∧ s.natAbs < 1073741824 ∧ Builtin.Range.small i j s = true ∧ Builtin.Range.rangeSize i j s = ((Builtin.Range.rangeSize i j s).toNat : Int)) ∧ (Builtin.Range.rangeSize i j s).toNat ≤ LIM then Rs.ok (rngS i s (Builtin.Range.rangeSize i j s).toNat) else .no) = _
  rw [e1, if_pos h]
theorem ev_sset {cl : Cl} {e : Env} {a : Ex} {l : List Int} (ha : evalE cl a e = .ok (.sh (td l))) (hl : l.length < 64) : evalE cl (.sset a) e = .ok (.l1 (((ddI l).mergeSort leZ).map Dv.int)) := by
  rw [evalE, ha]
  show ssetD (l.map Dv.int) = _
  unfold ssetD
  rw [ints_of]
  exact if_pos hl
theorem dd_self {l : List Int} (nd : l.Nodup) : ddI l = l := by
  induction l with
  | nil => rfl
  | cons x r ih =>
    obtain ⟨h1, h2⟩ := List.nodup_cons.mp nd
    unfold ddI
    rw [if_neg h1, ih h2]
theorem b_rep {xs : List Dv} {k : Int} (h : -(2 ^ 63) ≤ k ∧ k < 2 ^ 63 ∧ xs.length * k.toNat ≤ LIM) : binop .Mult (.lst xs) (.int k) = .ok (.l1 (List.replicate k.toNat xs).flatten) := if_pos h
end Dg

namespace Dg
open PySem PySem.Spec L2 He PyProof.Rows PySem.W
/-! ### tactics -/
/-- an operator on plain data -/
local macro_rules | `(tactic| walk_at "dop") => `(tactic| ((try dsimp only [Sv.toD]); first
  | (with_reducible assumption)
  | ((with_reducible refine Eq.trans (by assumption) ?_); rfl)
  | ((with_reducible show index _ _ = _); rfl)
  | exact b_add _ _ | exact b_sub _ _
  | exact len_int _ | exact len_intT _ | exact bc_sortI _ | exact bc_sortIT _
  | exact c_eq_td _ _ | exact c_ne_td _ _ | exact in_tds _ _ | exact in_tdsT _ _ | exact nin_tds _ _ | exact nin_tdsT _ _
  | exact in_ints _ _ | exact nin_ints _ _ | exact in_intsT _ _ | exact nin_intsT _ _
  | exact b_modp _ _ (by first | decide | omega)
  | exact b_fdivp _ _ (by first | decide | omega) (by first | decide | omega)
  | exact b_shr _ _ (by first | decide | omega)
  | exact b_mul _ _ (mul_small _ _ (by first | decide | omega))
  | exact b_mul _ _ (mul_smallL _ _ (by first | decide | omega))
  | exact c_eq _ _ | exact c_ne _ _ | exact c_lt _ _ | exact c_le _ _ | exact c_gt _ _ | exact c_ge _ _ | exact c_eqb _ _ | exact c_neb _ _
  | exact mut_app (by first | assumption | (simp only [List.length_map, List.length_append, List.length_cons, List.length_nil] <;> unfold LIM <;> omega))
  | exact b_addl (by first | assumption | (simp only [List.length_map, List.length_append, List.length_cons, List.length_nil] <;> unfold LIM <;> omega))
  | exact b_addt (by first | assumption | (simp only [List.length_map, List.length_append, List.length_cons, List.length_nil] <;> unfold LIM <;> omega))
  | rfl))
/-- the worth of an expression in a frame that is told -/
local macro_rules | `(tactic| walk_at "ev") => `(tactic| first
  | (with_reducible assumption)
  | ((with_reducible apply ev_cstE); rfl)
  | ((with_reducible apply ev_var); (first | rfl | assumption); rfl)
  | ((with_reducible apply ev_bin); walk_at "ev"; walk_at "ev"; walk_at "dop")
  | ((with_reducible apply ev_cmp); walk_at "ev"; walk_at "ev"; walk_at "dop")
  | ((with_reducible apply ev_orD); walk_at "ev"; (intro _; walk_at "ev"))
  | ((with_reducible apply ev_andD); walk_at "ev"; (intro _; walk_at "ev"))
  | ((with_reducible apply ev_cmp2); walk_at "ev"; walk_at "ev"; walk_at "dop"; (intro _; refine ⟨?_, ?_⟩; walk_at "ev"; walk_at "dop"))
  | ((with_reducible apply ev_not); walk_at "ev")
  | ((with_reducible apply ev_neg); walk_at "ev")
  | ((with_reducible apply ev_tup); walk_at "evs")
  | ((with_reducible apply ev_lst); walk_at "evs")
  | ((with_reducible apply ev_idx); walk_at "ev"; walk_at "ev"; walk_at "dop")
  | ((with_reducible apply ev_fld); walk_at "ev"; walk_at "dop")
  | ((with_reducible apply ev_isty); walk_at "ev"; walk_at "dop")
  | ((with_reducible apply ev_slc); walk_at "ev"; walk_at "eo"; walk_at "eo"; walk_at "dop")
  | ((with_reducible apply ev_bc); walk_at "ebs"; walk_at "dop")
  | ((with_reducible apply ev_rngT); walk_at "ev"; (unfold LIM; omega))
  | ((with_reducible apply ev_rngL); walk_at "ev"; (unfold LIM; omega))
  | ((with_reducible apply ev_callI); walk_at "evs"; (first | (with_reducible assumption) | walk_at "dop"))
  | ((with_reducible apply ev_callB); walk_at "ebs"; (first | (with_reducible assumption) | walk_at "dop"); rfl)
  | ((with_reducible apply ev_make); walk_at "evs"; (first | (with_reducible assumption) | walk_at "dop"))
  | ((with_reducible apply ev_meth); walk_at "ev"; walk_at "evs"; (first | (with_reducible assumption) | walk_at "dop")))
local macro_rules | `(tactic| walk_at "evs") => `(tactic| first
  | (with_reducible exact es_nil)
  | ((with_reducible apply es_cons); walk_at "ev"; rfl; walk_at "evs"))
local macro_rules | `(tactic| walk_at "ebs") => `(tactic| first
  | (with_reducible exact bs_nil)
  | ((with_reducible apply bs_cons); walk_at "ev"; walk_at "ebs"))
local macro_rules | `(tactic| walk_at "eo") => `(tactic| first
  | (with_reducible exact eo_non)
  | ((with_reducible apply eo_som); walk_at "ev"; rfl))
/-- frames laid flat -/
local macro_rules | `(tactic| walk_at "nrm") => `(tactic| dsimp only [frz, slot, List.set_cons_zero, List.set_cons_succ, Sv.toD])
/-- one statement -/
local macro_rules | `(tactic| walk_at "stp") => `(tactic| first
  | ((with_reducible apply nx_asg); (try dsimp only [frz]); walk_at "ev"; rfl; try walk_at "nrm")
  | ((with_reducible apply nx_par); (try dsimp only [frz]); walk_at "evs"; try walk_at "nrm")
  | ((with_reducible apply nx_aug); rfl; (try dsimp only [frz]); walk_at "ev"; try walk_at "nrm")
  | ((with_reducible apply nx_mut); rfl; (try dsimp only [frz]); walk_at "evs"; walk_at "dop"; try walk_at "nrm")
  | ((with_reducible apply nx_expr); (try dsimp only [frz]); walk_at "ev"; try walk_at "nrm")
  | ((with_reducible apply nx_setf); (try dsimp only [frz]); walk_at "ev"; rfl; rfl; decide; try walk_at "nrm")
  | ((with_reducible apply nx_pass); try walk_at "nrm"))

theorem pairs_okD (k : Nat) (n : Int) (rows : List (Bool × List Int)) (D : Dv) (hD : D.items = some (rows.map rd)) (hl : rows.length ≤ 1000) : callI dat.pg (k + 1) 42 [.int n, D] = .ok (.sh (tellP n (rows.map (·.2)))) := by
  rw [call_eq (P := dat.pg) (d := r_pairs_of.d) rfl rfl]
  have e0 : startE r_pairs_of.d ([Dv.int n, D].map Sv.sh) = [some (.sh (.int n)), some (.sh (D)), none, none] := rfl
  rw [e0]
  show outV (execB (clI dat.pg k) (.cons (.asg [] (.nm 2 true) (.lst .nil)) (.cons (.for [] (.nm 3 false) (.seq (.var 1)) bodyP) (.cons (.ret [] (.bc .tuple (.cons (.bc .sorted (.cons (.var 2) .nil)) .nil))) .nil))) _) = _
  rw [blk_nx (st_asg (sv := .l1 []) (e1 := [some (.sh (.int n)), some (.sh (D)), some (.l1 []), none]) (by simp only [frz, evalE, evalEs, Rs.bind]) rfl)]
  have src : evalS (clI dat.pg k) true (.seq (.var 1)) (frz [] [some (.sh (.int n)), some (.sh (D)), some (.l1 []), none]) = .ok (rows.map rd) := for_src (sv := .sh (D)) (d := D) rfl rfl hD
  unfold tellP
  rcases loopP (clI dat.pg k) n (some (.sh (D))) rows [] none (by unfold LIM; simp; omega) with ⟨g, o, h1, h2⟩ | ⟨h1, e, h2⟩
  · rw [run_eq] at h1
    split at h1
    · rename_i hv
      cases h1
      rw [if_pos hv]
      rw [blk_nx ((st_for src).trans h2)]
      have so := sort_ok hv.1
      have ev : evalE (clI dat.pg k) (.bc .tuple (.cons (.bc .sorted (.cons (.var 2) .nil)) .nil)) (frz [] [some (.sh (.int n)), some (.sh (D)), some (.l1 ((rows.map (·.2)).map td)), o]) = .ok (.sh (.tup (((rows.map (·.2)).map td).mergeSort leD))) := by
        have s1 : bcall .sorted [.lst ((rows.map (·.2)).map td)] = .ok (.l1 (((rows.map (·.2)).map td).mergeSort leD)) := if_pos so
        generalize (rows.map (·.2)).map td = q at s1
        simp only [frz, evalE, evalBs, slot, Sv.peek, Sv.toD, ofO, Rs.bind, s1]
        rfl
      rw [blk_rt (st_ret ev)]
      rfl
    · cases h1
  · rw [run_eq] at h1
    split at h1
    · cases h1
    · rename_i hv
      rw [if_neg hv]
      rw [blk_rt ((st_for src).trans h2)]
      rfl
open Classical in
theorem make_okD (k : Nat) (n : Int) (T B : List (Bool × List Int)) (DT DB : Dv) (iT : DT.items = some (T.map rd)) (iB : DB.items = some (B.map rd)) (hT : T.length ≤ 1000) (hB : B.length ≤ 1000) : makeI dat.pg (k + 2) 43 [.int n, DT, DB] =
    (if n < 1 ∨ 6 < n then .ex 8 none else if ¬ Val n (T.map (·.2)) then .ex 9 none else if ¬ Val n (B.map (·.2)) ∨ 6 < B.length then .ex 10 none else .ok (.obj 43 [(0, .int n), (1, tellP n (T.map (·.2))), (2, tellP n (B.map (·.2)))])) := by
  have h88 : dat.pg.sub 8 8 = some true := by kernel_rfl
  have h99 : dat.pg.sub 9 9 = some true := by kernel_rfl
  have h10 : dat.pg.sub 10 10 = some true := by kernel_rfl
  have pT := pairs_okD k n T DT iT hT
  have pB := pairs_okD k n B DB iB hB
  have e1 : ∀ (P : Pg) (d : Fd) (f : Nat) (ds : List Dv), P.init 43 = some f → P.fn f = some d → ds.length + 1 = d.np → makeI P (k + 2) 43 ds = outO 43 (execB (clI P (k + 1)) d.body (startE d (.o1 43 [] :: ds.map Sv.sh))) := fun P d f ds h1 h2 h3 => by
    rw [makeI, h1]
    show (match P.fn f with
      | some d => if ds.length + 1 = d.np then outO 43 (execB ⟨callI P (k + 1), makeI P (k + 1), P.sub, callMI P (k + 1), P.kfI (k + 1)⟩ d.body (startE d (Sv.o1 43 [] :: ds.map Sv.sh))) else .no
      | none => .no) = _
    rw [h2]
    exact if_pos h3
  rw [e1 dat.pg r_Drawing_init.d 44 _ (by kernel_rfl) (by kernel_rfl) rfl]
  have e0 : startE r_Drawing_init.d (.o1 43 [] :: [Dv.int n, DT, DB].map Sv.sh) = [some (.o1 43 []), some (.sh (.int n)), some (.sh (DT)), some (.sh (DB))] := rfl
  rw [e0]
  show outO 43 (execB (clI dat.pg (k + 1)) b_Drawing_init _) = _
  unfold b_Drawing_init
  by_cases c1 : n < 1 ∨ 6 < n
  · rw [if_pos c1]
    rw [blk_ite_ex (k := true) ?_ h88]
    · rfl
    · rcases c1 with c | c
      · simp [evalT, evalE, slot, Sv.peek, Sv.toD, ofO, Rs.bind, c_lt, c]
      · have c' : ¬ n < 1 := by omega
        simp [evalT, evalE, slot, Sv.peek, Sv.toD, ofO, Rs.bind, c_lt, c_gt, c, c']
  · rw [if_neg c1]
    have a1 : ¬ n < 1 := by omega
    have a2 : ¬ 6 < n := by omega
    rw [blk_ite_no (by simp [evalT, evalE, slot, Sv.peek, Sv.toD, ofO, Rs.bind, c_lt, c_gt, a1, a2])]
    rw [blk_nx (st_setf (sv := .sh (.int n)) (d := .int n) (C := 43) (fs := []) rfl rfl rfl (by decide))]
    have q1 : ([some (.o1 43 []), some (.sh (.int n)), some (.sh (DT)), some (.sh (DB))] : Env).set 0 (some (.o1 43 (putD 0 (.int n) []))) = [some (.o1 43 [(0, .int n)]), some (.sh (.int n)), some (.sh (DT)), some (.sh (DB))] := rfl
    rw [q1]
    rw [blk_nx (st_setf (sv := .sh (tellP n (T.map (·.2)))) (d := tellP n (T.map (·.2))) (C := 43) (fs := [(0, .int n)]) (by simp only [evalE, evalEs, slot, Sv.peek, Sv.share, Sv.toD, ofO, Rs.bind, pT]) rfl rfl (by simp))]
    have q2 : ([some (.o1 43 [(0, .int n)]), some (.sh (.int n)), some (.sh (DT)), some (.sh (DB))] : Env).set 0 (some (.o1 43 (putD 1 (tellP n (T.map (·.2))) [(0, .int n)]))) = [some (.o1 43 [(0, .int n), (1, tellP n (T.map (·.2)))]), some (.sh (.int n)), some (.sh (DT)), some (.sh (DB))] := rfl
    rw [q2]
    have fld1 : ∀ (x : Dv) (r : List (Nat × Dv)) (s1 s2 s3 : Option Sv), evalE (clI dat.pg (k + 1)) (.fld (.var 0) 1) [some (.o1 43 ((0, .int n) :: (1, x) :: r)), s1, s2, s3] = .ok (.sh x) := fun x r s1 s2 s3 => rfl
    have fld2 : ∀ (x y : Dv) (s1 s2 s3 : Option Sv), evalE (clI dat.pg (k + 1)) (.fld (.var 0) 2) [some (.o1 43 [(0, .int n), (1, x), (2, y)]), s1, s2, s3] = .ok (.sh y) := fun x y s1 s2 s3 => rfl
    by_cases c2 : Val n (T.map (·.2))
    · rw [if_neg (not_not_intro c2)]
      have tT : tellP n (T.map (·.2)) = .tup (((T.map (·.2)).map td).mergeSort leD) := if_pos c2
      have i1 : cmpop .Is (tellP n (T.map (·.2))) .non = .ok false := by rw [tT]; rfl
      rw [blk_ite_no (ev_t (ev_cmp (fld1 (tellP n (T.map (·.2))) _ _ _ _) ev_cst i1))]
      rw [blk_nx (st_setf (sv := .sh (tellP n (B.map (·.2)))) (d := tellP n (B.map (·.2))) (C := 43) (fs := [(0, .int n), (1, tellP n (T.map (·.2)))]) (by simp only [evalE, evalEs, slot, Sv.peek, Sv.share, Sv.toD, ofO, Rs.bind, pB]) rfl rfl (by simp))]
      have q3 : ([some (.o1 43 [(0, .int n), (1, tellP n (T.map (·.2)))]), some (.sh (.int n)), some (.sh (DT)), some (.sh (DB))] : Env).set 0 (some (.o1 43 (putD 2 (tellP n (B.map (·.2))) [(0, .int n), (1, tellP n (T.map (·.2)))]))) = [some (.o1 43 [(0, .int n), (1, tellP n (T.map (·.2))), (2, tellP n (B.map (·.2)))]), some (.sh (.int n)), some (.sh (DT)), some (.sh (DB))] := rfl
      rw [q3]
      by_cases c3 : Val n (B.map (·.2))
      · have tB : tellP n (B.map (·.2)) = .tup (((B.map (·.2)).map td).mergeSort leD) := if_pos c3
        have i2 : cmpop .Is (tellP n (B.map (·.2))) .non = .ok false := by rw [tB]; rfl
        have l2 : bcall .len [tellP n (B.map (·.2))] = .ok (.sh (.int B.length)) := by
          rw [tB]
          show Rs.ok (Sv.sh (Dv.int ((((B.map (·.2)).map td).mergeSort leD).length : Int))) = _
          rw [List.length_mergeSort, List.length_map, List.length_map]
        by_cases c4 : 6 < B.length
        · have c4' : (6 : Int) < (B.length : Int) := by omega
          rw [if_pos (.inr c4)]
          rw [blk_ite_ex (k := true) (ev_t (ev_or_f (ev_cmp (fld2 _ (tellP n (B.map (·.2))) _ _ _) ev_cst i2) (ev_cmp (ev_bc1 (fld2 _ (tellP n (B.map (·.2))) _ _ _) l2) ev_cst ((c_gt _ _).trans (by rw [decide_eq_true c4']))))) h10]
          rfl
        · have c4' : ¬ (6 : Int) < (B.length : Int) := by omega
          rw [if_neg (by intro z; rcases z with z | z; exact z c3; exact c4 z)]
          rw [blk_ite_no (ev_t (ev_or_f (ev_cmp (fld2 _ (tellP n (B.map (·.2))) _ _ _) ev_cst i2) (ev_cmp (ev_bc1 (fld2 _ (tellP n (B.map (·.2))) _ _ _) l2) ev_cst ((c_gt _ _).trans (by rw [decide_eq_false c4'])))))]
          rw [blk_nil]
          rfl
      · rw [if_pos (.inl c3)]
        have tB : tellP n (B.map (·.2)) = .non := if_neg c3
        have i2 : cmpop .Is (tellP n (B.map (·.2))) .non = .ok true := by rw [tB]; rfl
        rw [blk_ite_ex (k := true) (ev_t (ev_or_t (ev_cmp (fld2 _ (tellP n (B.map (·.2))) _ _ _) ev_cst i2))) h10]
        rfl
    · rw [if_pos c2]
      have tT : tellP n (T.map (·.2)) = .non := if_neg c2
      have i1 : cmpop .Is (tellP n (T.map (·.2))) .non = .ok true := by rw [tT]; rfl
      rw [blk_ite_ex (k := true) (ev_t (ev_cmp (fld1 (tellP n (T.map (·.2))) _ _ _ _) ev_cst i1)) h99]
      rfl
open Classical in
theorem make_ok (k : Nat) (n : Int) (T B : List (Bool × List Int)) (hT : T.length ≤ 1000) (hB : B.length ≤ 1000) : makeI dat.pg (k + 2) 43 [.int n, .lst (T.map rd), .lst (B.map rd)] =
    (if n < 1 ∨ 6 < n then .ex 8 none else if ¬ Val n (T.map (·.2)) then .ex 9 none else if ¬ Val n (B.map (·.2)) ∨ 6 < B.length then .ex 10 none else .ok (.obj 43 [(0, .int n), (1, tellP n (T.map (·.2))), (2, tellP n (B.map (·.2)))])) := make_okD k n T B _ _ rfl rfl hT hB
/-- a drawing made of pairs as tuples -/
abbrev drw (n : Int) (T B : List (List Int)) : Dv := .obj 43 [(0, .int n), (1, .tup ((T.mergeSort leI).map td)), (2, .tup ((B.mergeSort leI).map td))]
theorem map_rd (T : List (List Int)) : (T.map fun r => (true, r)).map rd = T.map td := by rw [List.map_map]; rfl
theorem map_snd (T : List (List Int)) : (T.map fun r => (true, r)).map (·.2) = T := by
  rw [List.map_map]
  exact List.map_id T
theorem make_td (k : Nat) (n : Int) (T B : List (List Int)) (hn : 1 ≤ n ∧ n ≤ 6) (vT : Val n T) (vB : Val n B) (lT : T.length ≤ 1000) (lB : B.length ≤ 6) : makeI dat.pg (k + 2) 43 [.int n, .lst (T.map td), .lst (B.map td)] = .ok (drw n T B) := by
  have h := make_ok k n (T.map fun r => (true, r)) (B.map fun r => (true, r)) (by rw [List.length_map]; omega) (by rw [List.length_map]; omega)
  rw [map_rd, map_rd, map_snd, map_snd, if_neg (by omega), if_neg (not_not_intro vT), if_neg (by rw [List.length_map]; intro z; rcases z with z | z; exact z vB; omega)] at h
  rw [h]
  unfold tellP
  rw [if_pos vT, if_pos vB, sort_tds, sort_tds]

theorem cell_ok (n : Nat) (ns : List Int) (k : Nat) : callI dat.pg (n + 1) 29 [.lst (ns.map Dv.int), .int (k : Int)] = .ok (.sh (.int (ns[k]?.getD 0))) := by
  have hl := len_int ns
  refine call_ret (d := r_l_cell_at.d) rfl rfl (?_ : ∃ e1, execB (clI dat.pg n) b_l_cell_at [some (.sh (.lst (ns.map Dv.int))), some (.sh (.int (k : Int)))] = .rt _ e1)
  unfold b_l_cell_at
  by_cases h : k < ns.length
  · have i := ixl_int h
    rw [List.getElem?_eq_getElem h]
    apply Exists.intro; apply nx_iteT
    · walk_at "ev"
    · exact decide_eq_true (by omega)
    · exact then_rt (rt_ret (by walk_at "ev")) rfl
  · rw [List.getElem?_eq_none (by omega)]
    apply Exists.intro; apply nx_iteF
    · walk_at "ev"
    · exact decide_eq_false (by omega)
    · exact then_nil (rt_ret (by walk_at "ev"))

/-! ### sets of names -/
theorem is_set_ok (n : Nat) (c : Int) (x y : Dv) (ns : List Int) (hl : ns.length ≤ 1000000) : callI dat.pg (n + 1) 51 [.obj 43 [(0, .int c), (1, x), (2, y)], td ns] = .ok (.sh (.bl (isSetB c ns))) := by
  have hl2 := len_intT ns
  refine call_ret (d := r_is_set.d) rfl rfl (?_ : ∃ e1, execB (clI dat.pg n) b_is_set [some (.sh (.obj 43 [(0, .int c), (1, x), (2, y)])), some (.sh (td ns)), none] = .rt _ e1)
  unfold b_is_set
  have src : ∀ o, evalS (clI dat.pg n) true (.rng1 (.bc .len (.cons (.var 1) .nil))) [some (.sh (.obj 43 [(0, .int c), (1, x), (2, y)])), some (.sh (td ns)), o] = .ok ((List.range ns.length).map fun (i : Nat) => Dv.int (i : Int)) := fun o => by
    rw [← rng_natR]
    refine s_rngN ?_ (by unfold LIM; omega)
    walk_at "ev"
  have lp := for_search (tg := .nm 2 false) (b := execB (clI dat.pg n) (.cons (.ite [] (.or (.cmp .Lt (.idx (.var 1) (.var 2)) (.cst (.int 0))) (.or (.cmp .GtE (.idx (.var 1) (.var 2)) (.fld (.var 0) 0)) (.and (.cmp .Gt (.var 2) (.cst (.int 0))) (.cmp .LtE (.idx (.var 1) (.var 2)) (.idx (.var 1) (.bin .Sub (.var 2) (.cst (.int 1)))))))) (.cons (.ret [] (.cst (.bl false))) .nil) .nil) .nil))
    (fun (i : Nat) => Dv.int (i : Int)) (fun (o : Option Sv) => [some (.sh (.obj 43 [(0, .int c), (1, x), (2, y)])), some (.sh (td ns)), o]) (fun k => !(decide (gI ns k < 0) || (decide (c ≤ gI ns k) || (decide (0 < (k : Int)) && decide (gI ns k ≤ gI ns (k - 1))))))
    (.sh (.bl false)) (List.range ns.length) none (fun k o hk => by
      have hk := List.mem_range.mp hk
      refine ⟨[some (.sh (.obj 43 [(0, .int c), (1, x), (2, y)])), some (.sh (td ns)), some (.sh (.int (k : Int)))], rfl, ?_⟩
      have i1 := ixt_gI hk
      have i2 : decide (0 < (k : Int)) = true → index (td ns) (.int ((k : Int) - 1)) = .ok (.int (gI ns (k - 1))) := fun h0 => by
        have h0 := of_decide_eq_true h0
        have := ixt_gI (show k - 1 < ns.length by omega)
        rw [show ((k - 1 : Nat) : Int) = (k : Int) - 1 by omega] at this
        exact this
      have cond : evalE (clI dat.pg n) (.or (.cmp .Lt (.idx (.var 1) (.var 2)) (.cst (.int 0))) (.or (.cmp .GtE (.idx (.var 1) (.var 2)) (.fld (.var 0) 0)) (.and (.cmp .Gt (.var 2) (.cst (.int 0))) (.cmp .LtE (.idx (.var 1) (.var 2)) (.idx (.var 1) (.bin .Sub (.var 2) (.cst (.int 1)))))))) [some (.sh (.obj 43 [(0, .int c), (1, x), (2, y)])), some (.sh (td ns)), some (.sh (.int (k : Int)))] = .ok (.sh (.bl (decide (gI ns k < 0) || (decide (c ≤ gI ns k) || (decide (0 < (k : Int)) && decide (gI ns k ≤ gI ns (k - 1))))))) := by
        refine ev_orD (by walk_at "ev") fun _ => ev_orD (by walk_at "ev") fun _ => ev_andD (by walk_at "ev") fun h0 => ?_
        have i2 := i2 h0
        walk_at "ev"
      cases hb : (decide (gI ns k < 0) || (decide (c ≤ gI ns k) || (decide (0 < (k : Int)) && decide (gI ns k ≤ gI ns (k - 1))))) with
      | true =>
        rw [hb] at cond
        refine .inr ⟨rfl, ?_⟩
        apply Exists.intro; apply nx_iteT cond rfl
        apply then_rt
        · apply rt_ret
          walk_at "ev"
        · rfl
      | false =>
        rw [hb] at cond
        exact .inl ⟨rfl, _, nx_iteF cond rfl (then_nil blk_nil)⟩)
  rcases lp with ⟨h1, j', h2⟩ | ⟨h1, e2, h2⟩
  · have e : isSetB c ns = true := h1
    rw [e]
    exact ⟨_, nx_for (fz := []) (src none) h2 (rt_ret ev_cst)⟩
  · have e : isSetB c ns = false := h1
    rw [e]
    exact ⟨_, nx_forR (fz := []) (src none) h2 rfl⟩
theorem look_set (n : Nat) (c : Int) (x y : Dv) (ns : List Int) (hl : ns.length ≤ 1000000) : callI dat.pg (n + 2) 52 [.obj 43 [(0, .int c), (1, x), (2, y)], td ns] = if isSetB c ns then .ok (.sh .non) else .ex 11 none := by
  have h := is_set_ok n c x y ns hl
  cases hb : isSetB c ns with
  | true =>
    rw [hb] at h
    refine call_end (d := r_look_at_set.d) rfl rfl (?_ : ∃ e1, execB (clI dat.pg (n + 1)) b_look_at_set [some (.sh (.obj 43 [(0, .int c), (1, x), (2, y)])), some (.sh (td ns))] = .nx e1)
    unfold b_look_at_set
    apply Exists.intro; apply nx_iteF
    · walk_at "ev"
    · rfl
    · exact then_nil blk_nil
  | false =>
    rw [hb] at h
    have s11 : dat.pg.sub 11 11 = some true := by kernel_rfl
    refine call_ex (d := r_look_at_set.d) rfl rfl (?_ : ∃ e1, execB (clI dat.pg (n + 1)) b_look_at_set [some (.sh (.obj 43 [(0, .int c), (1, x), (2, y)])), some (.sh (td ns))] = .ex _ _ e1)
    unfold b_look_at_set
    apply Exists.intro; apply nx_iteT
    · walk_at "ev"
    · rfl
    · exact then_ex (ex_rai s11) rfl

/-! ### parts, cuts, shapes -/
/-- sorted pairs of a drawing -/
structure SPr (c : Nat) (Q : List (Int × Int)) : Prop where
  val : Val (c : Int) (Q.map pr)
  srt : List.Pairwise (fun p q => leP p q = true) Q
theorem SPr.filter {c : Nat} {Q : List (Int × Int)} (h : SPr c Q) (f : Int × Int → Bool) : SPr c (Q.filter f) :=
  ⟨⟨fun r hr => h.val.1 r (((List.filter_sublist (p := f) (l := Q)).map pr).subset hr), h.val.2.sublist ((List.filter_sublist (p := f) (l := Q)).map pr)⟩, h.srt.filter f⟩
theorem sp_sort {c : Nat} {Q : List (Int × Int)} (h : SPr c Q) : (Q.map pr).mergeSort leI = Q.map pr := by
  have pw : List.Pairwise (fun a b => leI a b = true) (Q.map pr) := List.Pairwise.map _ (fun p q h => h) h.srt
  exact List.Perm.eq_of_pairwise (fun a b _ _ h1 h2 => leI_anti h1 h2) (leI_pw _) pw (List.mergeSort_perm _ _)
theorem items_tp (Q : List (Int × Int)) : Q.map tp = ((Q.map pr).map fun r => (true, r)).map rd := by
  rw [map_rd, ← map_tp]
/-- a drawing made of sorted pairs -/
theorem make_sp (k : Nat) (c : Nat) (Q B : List (Int × Int)) (DT DB : Dv) (iT : DT.items = some (Q.map tp)) (iB : DB.items = some (B.map tp)) (hc : 1 ≤ c ∧ c ≤ 6) (hQ : SPr c Q) (hB : SPr c B) (lQ : Q.length ≤ 1000) (lB : B.length ≤ 6) : makeI dat.pg (k + 2) 43 [.int (c : Int), DT, DB] = .ok (drQ (c : Int) Q B) := by
  have h := make_okD k (c : Int) ((Q.map pr).map fun r => (true, r)) ((B.map pr).map fun r => (true, r)) DT DB (by rw [iT, items_tp]) (by rw [iB, items_tp]) (by rw [List.length_map, List.length_map]; exact lQ) (by rw [List.length_map, List.length_map]; omega)
  rw [map_snd, map_snd, if_neg (by omega), if_neg (not_not_intro hQ.val), if_neg (by rw [List.length_map, List.length_map]; intro z; rcases z with z | z; exact z hB.val; omega)] at h
  rw [h]
  unfold tellP
  rw [if_pos hQ.val, if_pos hB.val, sort_tds, sort_tds, sp_sort hQ, sp_sort hB, ← map_tp, ← map_tp]
section
variable (n : Nat) (c : Nat) (hc : 1 ≤ c ∧ c ≤ 6) (Q B : List (Int × Int)) (hQ : SPr c Q) (hB : SPr c B) (lQ : Q.length ≤ 1000) (lB : B.length ≤ 6) (N : List Int) (lN : N.length ≤ 1000)
include hc hQ hB lQ lB lN
theorem part_ok (hs : isSetB (c : Int) N = true) : callI dat.pg (n + 3) 58 [drQ (c : Int) Q B, td N] = .ok (.sh (drQ (c : Int) (Q.filter (inN N)) (B.filter (inN N)))) := by
  have h := look_set n (c : Int) (.tup (Q.map tp)) (.tup (B.map tp)) N (by omega)
  rw [hs, if_pos rfl] at h
  have lf1 := List.length_filter_le (inN N) Q
  have lf2 := List.length_filter_le (inN N) B
  have mk := make_sp n c (Q.filter (inN N)) (B.filter (inN N)) (.lst ((Q.filter (inN N)).map tp)) (.lst ((B.filter (inN N)).map tp)) rfl rfl hc (hQ.filter _) (hB.filter _) (by omega) (by omega)
  refine call_ret (d := r_Drawing_part.d) rfl rfl (?_ : ∃ e1, execB (clI dat.pg (n + 2)) b_Drawing_part [some (.sh (drQ (c : Int) Q B)), some (.sh (td N)), none, none, none] = .rt _ e1)
  have c1 : evalE (clI dat.pg (n + 2)) (.comp [3, 4] (.tp [3, 4]) (.seq (.fld (.var 0) 1)) (.som (.and (.cmp .In (.var 3) (.var 1)) (.cmp .In (.var 4) (.var 1)))) (.tup (.cons (.var 3) (.cons (.var 4) .nil)))) [some (.sh (drQ (c : Int) Q B)), some (.sh (td N)), none, none, none] = .ok (.l1 ((Q.filter (inN N)).map tp)) := by
    refine comp_pairs (inN N) ?_ fun a _ => ⟨_, rfl, ?_, ?_⟩
    · apply s_seq
      · walk_at "ev"
      · rfl
      · rfl
    · apply ec_som
      walk_at "ev"
    · walk_at "ev"
  have c2 : evalE (clI dat.pg (n + 2)) (.comp [3, 4] (.tp [3, 4]) (.seq (.fld (.var 0) 2)) (.som (.and (.cmp .In (.var 3) (.var 1)) (.cmp .In (.var 4) (.var 1)))) (.tup (.cons (.var 3) (.cons (.var 4) .nil)))) [some (.sh (drQ (c : Int) Q B)), some (.sh (td N)), some (.sh (.lst ((Q.filter (inN N)).map tp))), none, none] = .ok (.l1 ((B.filter (inN N)).map tp)) := by
    refine comp_pairs (inN N) ?_ fun a _ => ⟨_, rfl, ?_, ?_⟩
    · apply s_seq
      · walk_at "ev"
      · rfl
      · rfl
    · apply ec_som
      walk_at "ev"
    · walk_at "ev"
  unfold b_Drawing_part
  apply Exists.intro
  walk_at "stp"
  walk_at "stp"
  apply rt_ret
  walk_at "nrm"
  walk_at "ev"
end

/-! ### lumps -/
theorem loopM (cl : Cl) (s0 s3 : Option Sv) (B : List (Int × Int)) (ns : List Int) (nd : ns.Nodup) (hl : ns.length + B.length ≤ 1000) :
    ∃ j : J5, forI (.tp [4, 5]) (execB cl (b_Drawing_lumps.at 2).body) (B.map tp) [s0, some (.sh (td ns)), some (.l1 ((ns.map fun x => [x]).map td)), s3, none, none, none, none, none] =
      .nx [s0, some (.sh (td ns)), some (.l1 ((B.foldl (lumpStep ns) (ns.map fun x => [x])).map td)), s3, j.1, j.2.1, j.2.2.1, j.2.2.2.1, j.2.2.2.2] := by
  dsimp only [b_Drawing_lumps, Blk.at, Stm.body]
  refine for_fold tp (fun (F : List (List Int)) (j : J5) => ([s0, some (.sh (td ns)), some (.l1 (F.map td)), s3, j.1, j.2.1, j.2.2.1, j.2.2.2.1, j.2.2.2.2] : Env)) (lumpStep ns) B (ns.map fun x => [x]) (none, none, none, none, none) fun l a r j e => ?_
  obtain ⟨j1, j2, j3, j4, j5⟩ := j
  have I := li_fold (l := l) (li_start (Q := B) nd) fun p hp => by rw [e]; exact List.mem_append_left _ hp
  have h1 := fold_lump_len ns l (ns.map fun x => [x])
  rw [List.length_map] at h1
  have h2 : B.length = l.length + (r.length + 1) := by rw [e, List.length_append, List.length_cons]
  generalize l.foldl (lumpStep ns) (ns.map fun x => [x]) = F at I h1
  have hF : F.length < LIM := by unfold LIM; omega
  have hC : evalE cl (.and (.cmp .In (.var 4) (.var 1)) (.cmp .In (.var 5) (.var 1))) [s0, some (.sh (td ns)), some (.l1 (F.map td)), s3, some (.sh (.int a.1)), some (.sh (.int a.2)), j3, j4, j5] = .ok (.sh (.bl (decide (a.1 ∈ ns) && decide (a.2 ∈ ns)))) := by walk_at "ev"
  by_cases hc : a.1 ∈ ns ∧ a.2 ∈ ns
  · obtain ⟨a1, a2, ra, ea⟩ := here_ok I hc.1
    obtain ⟨b1, b2, rb, eb⟩ := here_ok I hc.2
    have eS : lumpStep ns F a = if hereF F a.1 = hereF F a.2 then F else (F.filter fun L => !decide (L = hereF F a.1 ∨ L = hereF F a.2)) ++ [(hereF F a.1 ++ hereF F a.2).mergeSort leZ] := if_pos hc
    have lenL : ∀ L ∈ F, L.length ≤ ns.length := fun L hL => (up_nd (I.srt L hL)).length_le_of_subset fun x hx => I.sub L hL x hx
    have la := lenL _ a1
    have lb := lenL _ b1
    generalize hereF F a.1 = A at *
    generalize hereF F a.2 = C at *
    have i1 : index (.lst ((F.filter fun L => decide (a.1 ∈ L)).map td)) (.int 0) = .ok (td A) := by rw [ea]; exact ixl (i := 0) rfl
    have i2 : index (.lst ((F.filter fun L => decide (a.2 ∈ L)).map td)) (.int 0) = .ok (td C) := by rw [eb]; exact ixl (i := 0) rfl
    have c1 := here_comp cl s0 (some (.sh (td ns))) s3 j3 j4 j5 F a.1 a.2
    have c2 := there_comp cl s0 (some (.sh (td ns))) s3 (some (.sh (td A))) j4 j5 F a.1 a.2
    have c3 := rest_comp cl s0 (some (.sh (td ns))) s3 (some (.sh (.int a.1))) (some (.sh (.int a.2))) j4 F A C
    have add : binop .Add (td A) (td C) = .ok (.sh (td (A ++ C))) := b_add_td (by unfold LIM; omega)
    have lf := List.length_filter_le (fun L => !decide (L = A ∨ L = C)) F
    have hF2 : (F.filter fun L => !decide (L = A ∨ L = C)).length < LIM := by omega
    refine ⟨[s0, some (.sh (td ns)), some (.l1 (F.map td)), s3, some (.sh (.int a.1)), some (.sh (.int a.2)), j3, j4, j5], (some (.sh (.int a.1)), some (.sh (.int a.2)), some (.sh (td A)), j4, some (.sh (td C))), rfl, ?_⟩
    apply nx_iteT hC (by rw [decide_eq_true hc.1, decide_eq_true hc.2]; rfl)
    apply then_nx
    · walk_at "nrm"
      walk_at "stp"
      walk_at "stp"
      apply nx_ite (k := !decide (A = C)) (e1 := [s0, some (.sh (td ns)), some (.l1 ((lumpStep ns F a).map td)), s3, some (.sh (.int a.1)), some (.sh (.int a.2)), some (.sh (td A)), j4, some (.sh (td C))])
      · walk_at "nrm"
        walk_at "ev"
      · intro h
        have hne : ¬ A = C := by simpa using h
        rw [eS, if_neg hne, List.map_append]
        walk_at "nrm"
        walk_at "stp"
        walk_at "stp"
        exact blk_nil
      · intro h
        have heq : A = C := by simpa using h
        rw [eS, if_pos heq]
        exact blk_nil
      · exact blk_nil
    · exact blk_nil
  · have eS : lumpStep ns F a = F := if_neg hc
    rw [eS]
    refine ⟨[s0, some (.sh (td ns)), some (.l1 (F.map td)), s3, some (.sh (.int a.1)), some (.sh (.int a.2)), j3, j4, j5], (some (.sh (.int a.1)), some (.sh (.int a.2)), j3, j4, j5), rfl, ?_⟩
    exact nx_iteF hC (by cases h1 : decide (a.1 ∈ ns) <;> cases h2 : decide (a.2 ∈ ns) <;> first | rfl | exact absurd ⟨of_decide_eq_true h1, of_decide_eq_true h2⟩ hc) (then_nil blk_nil)
theorem lumps_ok (n : Nat) (c : Int) (x : Dv) (B : List (Int × Int)) (ns : List Int) (nd : ns.Nodup) (hl : ns.length + B.length ≤ 1000) (hs : isSetB c ns = true) : callI dat.pg (n + 3) 57 [.obj 43 [(0, .int c), (1, x), (2, .tup (B.map tp))], td ns] = .ok (.l1 (((B.foldl (lumpStep ns) (ns.map fun x => [x])).mergeSort leI).map td)) := by
  have h := look_set n c x (.tup (B.map tp)) ns (by omega)
  rw [hs, if_pos rfl] at h
  obtain ⟨j, hj⟩ := loopM (clI dat.pg (n + 2)) (some (.sh (.obj 43 [(0, .int c), (1, x), (2, .tup (B.map tp))]))) none B ns nd hl
  have I := li_fold (l := B) (li_start (Q := B) nd) fun p hp => hp
  have sr : bcall .sorted [.lst ((B.foldl (lumpStep ns) (ns.map fun x => [x])).map td)] = .ok (.l1 (((B.foldl (lumpStep ns) (ns.map fun x => [x])).mergeSort leI).map td)) := bc_sortT I.ne
  refine call_retL (d := r_Drawing_lumps.d) rfl rfl (?_ : ∃ e1, execB (clI dat.pg (n + 2)) b_Drawing_lumps [some (.sh (.obj 43 [(0, .int c), (1, x), (2, .tup (B.map tp))])), some (.sh (td ns)), none, none, none, none, none, none, none] = .rt _ e1)
  have hc : evalE (clI dat.pg (n + 2)) (.comp [3] (.nm 3 false) (.seq (.var 1)) .non (.tup (.cons (.var 3) .nil))) [some (.sh (.obj 43 [(0, .int c), (1, x), (2, .tup (B.map tp))])), some (.sh (td ns)), none, none, none, none, none, none, none] = .ok (.l1 ((ns.map fun x => [x]).map td)) := by
    rw [map_one]
    refine ev_comp (ds := ns.map Dv.int) ?_ ?_
    · apply s_seq
      · walk_at "ev"
      · rfl
      · rfl
    · refine comp_all Dv.int _ ns fun a _ => ?_
      apply el_t
      · rfl
      · exact ec_non
      · walk_at "ev"
      · rfl
  dsimp only [b_Drawing_lumps, Blk.at, Stm.body] at hj
  unfold b_Drawing_lumps
  apply Exists.intro
  walk_at "stp"
  walk_at "stp"
  apply nx_for (ds := B.map tp)
  · apply s_seq
    · walk_at "nrm"
      walk_at "ev"
    · rfl
    · rfl
  · walk_at "nrm"
    with_reducible exact hj
  apply rt_retL
  walk_at "nrm"
  walk_at "ev"

/-! ### ancestors -/
theorem anc_ok (n : Nat) (c : Int) (Q : List (Int × Int)) (y : Dv) (ns : List Int) (hl : ns.length + Q.length ≤ 100000) (hs : isSetB c ns = true) : callI dat.pg (n + 3) 55 [drP c Q y, td ns] = .ok (.sh (td ((passF ((Q.map swp).mergeSort leP).reverse ns).mergeSort leZ))) := by
  have h := look_set n c (.tup (Q.map tp)) y ns (by omega)
  rw [hs, if_pos rfl] at h
  refine call_ret (d := r_Drawing_ancestors.d) rfl rfl (?_ : ∃ e1, execB (clI dat.pg (n + 2)) b_Drawing_ancestors [some (.sh (drP c Q y)), some (.sh (td ns)), none, none, none] = .rt _ e1)
  unfold b_Drawing_ancestors
  have hlen : ns.length + (((Q.map swp).mergeSort leP).reverse).length ≤ 100000 := by rw [List.length_reverse, List.length_mergeSort, List.length_map]; exact hl
  obtain ⟨j, hj⟩ := loopF (clI dat.pg (n + 2)) (some (.sh (drP c Q y))) (some (.sh (td ns))) ((Q.map swp).mergeSort leP).reverse ns (none, none) hlen
  have hc : evalE (clI dat.pg (n + 2)) (.comp [3, 4] (.tp [3, 4]) (.seq (.fld (.var 0) 1)) .non (.tup (.cons (.var 4) (.cons (.var 3) .nil)))) [some (.sh (drP c Q y)), some (.sh (td ns)), some (.l1 (ns.map Dv.int)), none, none] = .ok (.l1 ((Q.map swp).map tp)) := by
    rw [List.map_map]
    refine ev_comp (ds := Q.map tp) ?_ ?_
    · apply s_seq
      · walk_at "ev"
      · rfl
      · rfl
    · refine comp_all tp (tp ∘ swp) Q fun a _ => ?_
      apply el_t
      · rfl
      · exact ec_non
      · walk_at "ev"
      · rfl
  have hb := bc_sortP (Q.map swp)
  apply Exists.intro
  walk_at "stp"
  walk_at "stp"
  apply nx_for (ds := ((Q.map swp).mergeSort leP).reverse.map tp) (h2 := hj)
  · rw [List.map_reverse]
    apply s_revS
    · walk_at "nrm"
      walk_at "ev"
    · rfl
    · rfl
  apply rt_ret
  walk_at "ev"

/-! ### what the script's cells tell: a number, a drawing, a question -/
theorem log_le {n a : Nat} (h : n < 2 ^ a) : n.log2 ≤ a := by
  by_cases z : n = 0
  · subst z
    exact Nat.zero_le _
  · exact Nat.le_of_lt ((Nat.log2_lt z).mpr h)
theorem mul_bigN {i j : Int} (a b : Nat) (hi : i.natAbs < 2 ^ a) (hj : j.natAbs < 2 ^ b) (hab : a + b < 1000000) : MulOk i j := .inr (.inr (by
  have h1 := log_le hi
  have h2 := log_le hj
  omega))
theorem mix_ok (n : Nat) (u : Int) (k : Nat) (hk : k ≤ 100) : ∃ m : Int, 0 ≤ m ∧ callI dat.pg (n + 1) 74 [.int u, .int (k : Int)] = .ok (.sh (.int m)) := by
  have p18 : binop .Pow (.int 10) (.int 18) = .ok (.sh (.int 1000000000000000000)) := b_pow 10 18 (by decide)
  have p60 : binop .Pow (.int 10) (.int 60) = .ok (.sh (.int 1000000000000000000000000000000000000000000000000000000000000)) := b_pow 10 60 (by decide)
  have p40 : binop .Pow (.int 10) (.int 40) = .ok (.sh (.int 10000000000000000000000000000000000000000)) := b_pow 10 40 (by decide)
  by_cases h0 : 1000000000000000000 ≤ u
  · refine ⟨u - 1000000000000000000, by omega, call_ret (d := r_l_mix.d) rfl rfl (?_ : ∃ e1, execB (clI dat.pg n) b_l_mix [some (.sh (.int u)), some (.sh (.int (k : Int))), none] = .rt _ e1)⟩
    unfold b_l_mix
    apply Exists.intro
    apply nx_iteT
    · walk_at "ev"
    · exact decide_eq_true h0
    apply then_rt
    · apply rt_ret
      walk_at "nrm"
      walk_at "ev"
    · rfl
  · have g0 := Int.emod_nonneg u (show (1000000000000000000000000000000000000000000000000000000000000 : Int) ≠ 0 by omega)
    have g1 := Int.emod_lt_of_pos u (show (0 : Int) < 1000000000000000000000000000000000000000000000000000000000000 by omega)
    have r1 : binop .Mod (.int u) (.int 1000000000000000000000000000000000000000000000000000000000000) = .ok (.sh (.int (u % 1000000000000000000000000000000000000000000000000000000000000))) := b_modp _ _ (by omega)
    generalize u % 1000000000000000000000000000000000000000000000000000000000000 = i at g0 g1 r1
    have hi : i.natAbs < 2 ^ 200 := Nat.lt_of_lt_of_le (show i.natAbs < 1000000000000000000000000000000000000000000000000000000000000 by omega) (by decide +kernel)
    have m1 := b_mul i i (mul_bigN 200 200 hi hi (by decide))
    have m2 := b_mul 40503 (k : Int) (mul_smallL _ _ (by decide))
    have m3 := b_mul (40503 * (k : Int)) (k : Int) (mul_small _ _ (by
      have : (2 : Nat) ^ 64 = 18446744073709551616 := rfl
      omega))
    have m4 := b_mul (i * i + 40503 * (k : Int) * (k : Int) + 7919) 1812433253982451697 (mul_small _ _ (by decide))
    have r2 : binop .Mod (.int ((i * i + 40503 * (k : Int) * (k : Int) + 7919) * 1812433253982451697)) (.int (1000000000000000000 + 9)) = .ok (.sh (.int ((i * i + 40503 * (k : Int) * (k : Int) + 7919) * 1812433253982451697 % (1000000000000000000 + 9)))) := b_modp _ _ (by omega)
    have g2 := Int.emod_nonneg ((i * i + 40503 * (k : Int) * (k : Int) + 7919) * 1812433253982451697) (show (1000000000000000000 + 9 : Int) ≠ 0 by omega)
    have g3 := Int.emod_lt_of_pos ((i * i + 40503 * (k : Int) * (k : Int) + 7919) * 1812433253982451697) (show (0 : Int) < 1000000000000000000 + 9 by omega)
    generalize (i * i + 40503 * (k : Int) * (k : Int) + 7919) * 1812433253982451697 % (1000000000000000000 + 9) = j at r2 g2 g3
    have hj : j.natAbs < 2 ^ 64 := by
      have : (2 : Nat) ^ 64 = 18446744073709551616 := rfl
      omega
    have m5 := b_mul j j (mul_small _ _ hj)
    have hjj : (j * j + (k : Int)).natAbs < 2 ^ 130 := by
      have h1 := Int.natAbs_add_le (j * j) (k : Int)
      rw [Int.natAbs_mul] at h1
      have h2 : j.natAbs * j.natAbs ≤ 18446744073709551616 * 18446744073709551616 := Nat.mul_le_mul (Nat.le_of_lt hj) (Nat.le_of_lt hj)
      refine Nat.lt_of_le_of_lt (m := 18446744073709551616 * 18446744073709551616 + 100) ?_ (by decide +kernel)
      omega
    have m6 := b_mul (j * j + (k : Int)) 739108512309184756019283746561 (mul_bigN 130 130 hjj (by decide +kernel) (by decide))
    have r3 : binop .Mod (.int ((j * j + (k : Int)) * 739108512309184756019283746561)) (.int (10000000000000000000000000000000000000000 + 121)) = .ok (.sh (.int ((j * j + (k : Int)) * 739108512309184756019283746561 % (10000000000000000000000000000000000000000 + 121)))) := b_modp _ _ (by omega)
    have g4 := Int.emod_nonneg ((j * j + (k : Int)) * 739108512309184756019283746561) (show (10000000000000000000000000000000000000000 + 121 : Int) ≠ 0 by omega)
    generalize (j * j + (k : Int)) * 739108512309184756019283746561 % (10000000000000000000000000000000000000000 + 121) = m at r3 g4
    refine ⟨m, g4, call_ret (d := r_l_mix.d) rfl rfl (?_ : ∃ e1, execB (clI dat.pg n) b_l_mix [some (.sh (.int u)), some (.sh (.int (k : Int))), none] = .rt _ e1)⟩
    unfold b_l_mix
    apply Exists.intro
    apply nx_iteF
    · walk_at "ev"
    · exact decide_eq_false h0
    refine then_nil ?_
    walk_at "stp"
    walk_at "stp"
    apply rt_ret
    walk_at "nrm"
    walk_at "ev"
theorem sp_of {c : Nat} {Q : List (Int × Int)} (v : Val (c : Int) (Q.map pr)) : SPr c (Q.mergeSort leP) :=
  ⟨(val_perm ((List.mergeSort_perm Q leP).map pr)).mpr v, leP_pw Q⟩
theorem val_prs {c : Int} {T : List (List Int)} (h : Val c T) : ∃ Q : List (Int × Int), T = Q.map pr := by
  refine ⟨T.map fun r => (r.getD 0 0, r.getD 1 0), ?_⟩
  rw [List.map_map]
  refine (List.map_id T).symm.trans (List.map_congr_left fun r hr => ?_)
  obtain ⟨a, b, rfl, _⟩ := h.1 r hr
  rfl
theorem SPr.ties {c : Nat} {Q : List (Int × Int)} (h : SPr c Q) : Ties c Q := fun p hp => by
  obtain ⟨a, b, e, h1, h2, h3⟩ := h.val.1 (pr p) (List.mem_map_of_mem hp)
  unfold pr at e
  injection e with e1 e
  injection e with e2 _
  rw [e1, e2]
  exact ⟨h1, h2, h3⟩
theorem ldraw_ok (n : Nat) (z : Int) (most : Nat) (hm : 1 ≤ most ∧ most ≤ 6) : ∃ (c : Nat) (P R : List (Int × Int)), (1 ≤ c ∧ c ≤ most) ∧ SPr c P ∧ SPr c R ∧ P.length ≤ 100 ∧ R.length ≤ 6 ∧
    callI dat.pg (n + 1) 75 [.int z, .int 1, .int (most : Int)] = .ok (.l1 [.int (c : Int), .lst (P.map tp), .lst (R.map tp)]) := by
  have hpos : (0 : Int) < (most : Int) - 1 + 1 := by omega
  have g0 := Int.emod_nonneg z (show ((most : Int) - 1 + 1) ≠ 0 by omega)
  have g1 := Int.emod_lt_of_pos z hpos
  have r1 : binop .Mod (.int z) (.int ((most : Int) - 1 + 1)) = .ok (.sh (.int (z % ((most : Int) - 1 + 1)))) := b_modp _ _ hpos
  have r2 : binop .FloorDiv (.int z) (.int ((most : Int) - 1 + 1)) = .ok (.sh (.int (z / ((most : Int) - 1 + 1)))) := b_fdivp _ _ hpos (by
    have : most = 1 ∨ most = 2 ∨ most = 3 ∨ most = 4 ∨ most = 5 ∨ most = 6 := by omega
    rcases this with rfl | rfl | rfl | rfl | rfl | rfl <;> decide)
  generalize z / ((most : Int) - 1 + 1) = z1 at r2
  generalize z % ((most : Int) - 1 + 1) = y at r1 g0 g1
  obtain ⟨c, hc⟩ : ∃ c : Nat, 1 + y = (c : Int) := ⟨(1 + y).toNat, by omega⟩
  have cb : 1 ≤ c ∧ c ≤ most := by omega
  have a1 : binop .Add (.int 1) (.int y) = .ok (.sh (.int (c : Int))) := by rw [← hc]; exact b_add _ _
  obtain ⟨e2, q, z2, T, B, s6, s7, iT, iB, lT, lB, rfl⟩ := for_range (tg := .nm 6 false) (b := execB (clI dat.pg n) (b_l_drawing.at 4).body)
    (I := fun v e => ∃ (z2 : Int) (T B : List (List Int)) (s6 s7 : Option Sv), Inv2 T v 0 ∧ Inv2 B v 0 ∧ T.length ≤ 6 * v ∧ B.length ≤ 6 ∧ e = [some (.sh (.int z2)), some (.sh (.int 1)), some (.sh (.int (most : Int))), some (.sh (.int (c : Int))), some (.l1 (T.map td)), some (.l1 (B.map td)), s6, s7]) c 0 [some (.sh (.int z1)), some (.sh (.int 1)), some (.sh (.int (most : Int))), some (.sh (.int (c : Int))), some (.l1 []), some (.l1 []), none, none]
    ⟨z1, [], [], none, none, ⟨(fun r hr => by cases hr), List.nodup_nil⟩, ⟨(fun r hr => by cases hr), List.nodup_nil⟩, Nat.zero_le _, Nat.zero_le _, rfl⟩
    (fun v _ hv e ⟨z2, T, B, s6, s7, iT, iB, lT, lB, he⟩ => by
      subst he
      obtain ⟨e2, q, z3, T2, B2, s7', iT2, iB2, lT2, lB2, rfl⟩ := for_range (tg := .nm 7 false) (b := execB (clI dat.pg n) ((b_l_drawing.at 4).body.at 0).body)
        (I := fun u e => ∃ (z2 : Int) (T B : List (List Int)) (s7 : Option Sv), Inv2 T v u ∧ Inv2 B v u ∧ T.length ≤ 6 * v + u ∧ B.length ≤ 6 ∧ e = [some (.sh (.int z2)), some (.sh (.int 1)), some (.sh (.int (most : Int))), some (.sh (.int (c : Int))), some (.l1 (T.map td)), some (.l1 (B.map td)), some (.sh (.int (v : Int))), s7]) v 0 [some (.sh (.int z2)), some (.sh (.int 1)), some (.sh (.int (most : Int))), some (.sh (.int (c : Int))), some (.l1 (T.map td)), some (.l1 (B.map td)), some (.sh (.int (v : Int))), s7]
        ⟨z2, T, B, s7, iT, iB, lT, lB, rfl⟩
        (fun u _ hu e ⟨z2, T, B, s7, iT, iB, lT, lB, he⟩ => by
          subst he
          have huv : u < v := by omega
          have lb : bcall .len [.lst (B.map td)] = .ok (.sh (.int (B.length : Int))) := by
            show Rs.ok (Sv.sh (.int ((B.map td).length : Int))) = _
            rw [List.length_map]
          dsimp only [b_l_drawing, Blk.at, Stm.body]
          refine ⟨_, [some (.sh (.int (z2 / 6))), some (.sh (.int 1)), some (.sh (.int (most : Int))), some (.sh (.int (c : Int))), some (.l1 ((if z2 % 6 % 2 = 1 then T ++ [[(u : Int), (v : Int)]] else T).map td)), some (.l1 ((if z2 % 6 / 2 = 2 ∧ B.length < 6 then B ++ [[(u : Int), (v : Int)]] else B).map td)), some (.sh (.int (v : Int))), some (.sh (.int (u : Int)))], rfl, ?_, z2 / 6, _, _, some (.sh (.int (u : Int))), ?_, ?_, ?_, ?_, rfl⟩
          · refine nx_ite (k := decide (z2 % 6 % 2 = 1)) (e1 := [some (.sh (.int z2)), some (.sh (.int 1)), some (.sh (.int (most : Int))), some (.sh (.int (c : Int))), some (.l1 ((if z2 % 6 % 2 = 1 then T ++ [[(u : Int), (v : Int)]] else T).map td)), some (.l1 (B.map td)), some (.sh (.int (v : Int))), some (.sh (.int (u : Int)))]) ?_ (fun h => ?_) (fun h => ?_) ?_
            · walk_at "nrm"
              walk_at "ev"
            · have h := of_decide_eq_true h
              rw [if_pos h, List.map_append]
              walk_at "nrm"
              walk_at "stp"
              exact blk_nil
            · have h := of_decide_eq_false h
              rw [if_neg h]
              exact blk_nil
            · refine nx_ite (k := decide (z2 % 6 / 2 = 2) && decide ((B.length : Int) < 6)) (e1 := [some (.sh (.int z2)), some (.sh (.int 1)), some (.sh (.int (most : Int))), some (.sh (.int (c : Int))), some (.l1 ((if z2 % 6 % 2 = 1 then T ++ [[(u : Int), (v : Int)]] else T).map td)), some (.l1 ((if z2 % 6 / 2 = 2 ∧ B.length < 6 then B ++ [[(u : Int), (v : Int)]] else B).map td)), some (.sh (.int (v : Int))), some (.sh (.int (u : Int)))]) ?_ (fun h => ?_) (fun h => ?_) ?_
              · walk_at "nrm"
                walk_at "ev"
              · rw [Bool.and_eq_true, decide_eq_true_eq, decide_eq_true_eq] at h
                rw [if_pos (show z2 % 6 / 2 = 2 ∧ B.length < 6 by omega), List.map_append (l₁ := B)]
                walk_at "nrm"
                walk_at "stp"
                exact blk_nil
              · rw [Bool.and_eq_false_iff, decide_eq_false_iff_not, decide_eq_false_iff_not] at h
                rw [if_neg (show ¬ (z2 % 6 / 2 = 2 ∧ B.length < 6) by omega)]
                exact blk_nil
              · walk_at "stp"
                exact blk_nil
          · split
            · exact inv_add iT huv
            · exact inv_up iT
          · split
            · exact inv_add iB huv
            · exact inv_up iB
          · split
            · rw [List.length_append, List.length_singleton]; omega
            · omega
          · split
            · rename_i h
              rw [List.length_append, List.length_singleton]; omega
            · exact lB)
      rw [Nat.zero_add] at iT2 iB2 lT2
      dsimp only [b_l_drawing, Blk.at, Stm.body] at q ⊢
      refine ⟨_, _, rfl, ?_, z3, T2, B2, some (.sh (.int (v : Int))), s7', inv_next iT2, inv_next iB2, by omega, lB2, rfl⟩
      apply nx_for (ds := (List.range' 0 v).map fun (i : Nat) => Dv.int (i : Int))
      · rw [← rng_nat]
        exact s_rngN (n := v) (by walk_at "nrm"; walk_at "ev") (by unfold LIM; omega)
      · walk_at "nrm"
        exact q
      exact blk_nil)
  rw [Nat.zero_add] at iT iB lT
  have vT := inv_val iT
  have vB := inv_val iB
  obtain ⟨P, rfl⟩ := val_prs vT
  obtain ⟨R, rfl⟩ := val_prs vB
  rw [List.length_map] at lT lB
  have b1 := bc_sortP P
  have b2 := bc_sortP R
  rw [← map_tp, ← map_tp] at q
  dsimp only [b_l_drawing, Blk.at, Stm.body] at q
  refine ⟨c, P.mergeSort leP, R.mergeSort leP, cb, sp_of vT, sp_of vB, by rw [List.length_mergeSort]; omega, by rw [List.length_mergeSort]; exact lB, call_retL (d := r_l_drawing.d) rfl rfl (?_ : ∃ e1, execB (clI dat.pg n) b_l_drawing [some (.sh (.int z)), some (.sh (.int 1)), some (.sh (.int (most : Int))), none, none, none, none, none] = .rt _ e1)⟩
  unfold b_l_drawing
  apply Exists.intro
  walk_at "stp"
  walk_at "stp"
  walk_at "stp"
  walk_at "stp"
  apply nx_for (ds := (List.range' 0 c).map fun (i : Nat) => Dv.int (i : Int))
  · rw [← rng_nat]
    exact s_rngN (n := c) (by walk_at "nrm"; walk_at "ev") (by unfold LIM; omega)
  · walk_at "nrm"
    exact q
  apply rt_retL
  walk_at "nrm"
  walk_at "ev"

theorem quest_ok (n : Nat) (z : Int) (c : Nat) (hc : 1 ≤ c ∧ c ≤ 6) : ∃ O A : List Int, St c O ∧ St c A ∧ A ≠ [] ∧ (∀ x ∈ A, x ∉ O) ∧ callI dat.pg (n + 1) 76 [.int z, .int (c : Int)] = .ok (.sh (.tup [td O, td A])) := by
  have ilt : ∀ (l : List Int) (v : Nat), Up l → (∀ x ∈ l, 0 ≤ x ∧ x < (v : Int)) → Up (l ++ [(v : Int)]) := fun l v up h => by
    refine List.pairwise_append.mpr ⟨up, List.pairwise_singleton _ _, fun a ha b hb => ?_⟩
    rw [List.mem_singleton.mp hb]
    exact (h a ha).2
  obtain ⟨e2, q, z2, O, A, s4, s5, iO, iA, uO, uA, dj, rfl⟩ := for_range (tg := .nm 4 false) (b := execB (clI dat.pg n) (b_l_question.at 2).body)
    (I := fun v e => ∃ (z2 : Int) (O A : List Int) (s4 s5 : Option Sv), (∀ x ∈ O, 0 ≤ x ∧ x < (v : Int)) ∧ (∀ x ∈ A, 0 ≤ x ∧ x < (v : Int)) ∧ Up O ∧ Up A ∧ (∀ x ∈ A, x ∉ O) ∧ e = [some (.sh (.int z2)), some (.sh (.int (c : Int))), some (.l1 (O.map Dv.int)), some (.l1 (A.map Dv.int)), s4, s5]) c 0 [some (.sh (.int z)), some (.sh (.int (c : Int))), some (.l1 []), some (.l1 []), none, none]
    ⟨z, [], [], none, none, (fun x hx => by cases hx), (fun x hx => by cases hx), .nil, .nil, (fun x hx => by cases hx), rfl⟩
    (fun v _ hv e ⟨z2, O, A, s4, s5, iO, iA, uO, uA, dj, he⟩ => by
      subst he
      have lO := nd_len (up_nd uO) iO
      have lA := nd_len (up_nd uA) iA
      have g0 := Int.emod_nonneg z2 (show (5 : Int) ≠ 0 by omega)
      have mv : ∀ l : List Int, (∀ x ∈ l, 0 ≤ x ∧ x < (v : Int)) → ∀ x ∈ l, 0 ≤ x ∧ x < ((v + 1 : Nat) : Int) := fun l h x hx => by have := h x hx; omega
      have mv2 : ∀ l : List Int, (∀ x ∈ l, 0 ≤ x ∧ x < (v : Int)) → ∀ x ∈ l ++ [(v : Int)], 0 ≤ x ∧ x < ((v + 1 : Nat) : Int) := fun l h x hx => by
        rcases List.mem_append.mp hx with hx | hx
        · have := h x hx; omega
        · rw [List.mem_singleton.mp hx]; omega
      dsimp only [b_l_question, Blk.at, Stm.body]
      refine ⟨_, [some (.sh (.int (z2 / 5))), some (.sh (.int (c : Int))), some (.l1 ((if z2 % 5 = 0 ∨ z2 % 5 = 1 then O ++ [(v : Int)] else O).map Dv.int)), some (.l1 ((if z2 % 5 = 2 then A ++ [(v : Int)] else A).map Dv.int)), some (.sh (.int (v : Int))), some (.sh (.int (z2 % 5)))], rfl, ?_, z2 / 5, _, _, _, _, ?_, ?_, ?_, ?_, ?_, rfl⟩
      · walk_at "nrm"
        walk_at "stp"
        walk_at "stp"
        refine nx_ite (k := decide (z2 % 5 = 0) || decide (z2 % 5 = 1)) (e1 := [some (.sh (.int (z2 / 5))), some (.sh (.int (c : Int))), some (.l1 ((if z2 % 5 = 0 ∨ z2 % 5 = 1 then O ++ [(v : Int)] else O).map Dv.int)), some (.l1 (A.map Dv.int)), some (.sh (.int (v : Int))), some (.sh (.int (z2 % 5)))]) ?_ (fun h => ?_) (fun h => ?_) ?_
        · walk_at "nrm"
          walk_at "ev"
        · rw [Bool.or_eq_true, decide_eq_true_eq, decide_eq_true_eq] at h
          rw [if_pos h, List.map_append]
          walk_at "nrm"
          walk_at "stp"
          exact blk_nil
        · rw [Bool.or_eq_false_iff, decide_eq_false_iff_not, decide_eq_false_iff_not] at h
          rw [if_neg (by omega)]
          exact blk_nil
        · refine nx_ite (k := decide (z2 % 5 = 2)) (e1 := [some (.sh (.int (z2 / 5))), some (.sh (.int (c : Int))), some (.l1 ((if z2 % 5 = 0 ∨ z2 % 5 = 1 then O ++ [(v : Int)] else O).map Dv.int)), some (.l1 ((if z2 % 5 = 2 then A ++ [(v : Int)] else A).map Dv.int)), some (.sh (.int (v : Int))), some (.sh (.int (z2 % 5)))]) ?_ (fun h => ?_) (fun h => ?_) blk_nil
          · walk_at "nrm"
            walk_at "ev"
          · have h := of_decide_eq_true h
            rw [if_pos h, List.map_append (l₁ := A)]
            walk_at "nrm"
            walk_at "stp"
            exact blk_nil
          · have h := of_decide_eq_false h
            rw [if_neg h]
            exact blk_nil
      · split
        · exact mv2 O iO
        · exact mv O iO
      · split
        · exact mv2 A iA
        · exact mv A iA
      · split
        · exact ilt O v uO iO
        · exact uO
      · split
        · exact ilt A v uA iA
        · exact uA
      · intro x hx
        split at hx
        · rename_i h5
          rw [if_neg (by omega)]
          rcases List.mem_append.mp hx with hx | hx
          · exact dj x hx
          · rw [List.mem_singleton.mp hx]
            intro hO
            have := iO _ hO
            omega
        · split
          · intro hO
            rcases List.mem_append.mp hO with hO | hO
            · exact dj x hx hO
            · rw [List.mem_singleton.mp hO] at hx
              have := iA _ hx
              omega
          · exact dj x hx)
  rw [Nat.zero_add] at iO iA
  have lA := len_int A
  have src : evalS (clI dat.pg n) true (.rng1 (.var 1)) (frz [] [some (.sh (.int z)), some (.sh (.int (c : Int))), some (.l1 []), some (.l1 []), none, none]) = .ok ((List.range' 0 c).map fun (i : Nat) => Dv.int (i : Int)) := by
    rw [← rng_nat]
    exact s_rngN (n := c) (by walk_at "nrm"; walk_at "ev") (by unfold LIM; omega)
  dsimp only [b_l_question, Blk.at, Stm.body] at q
  by_cases hA : A = []
  · subst hA
    refine ⟨O.filter fun x => decide (x < (c : Int) - 1), [(c : Int) - 1], ⟨fun x hx => iO x (List.mem_filter.mp hx).1, uO.filter _⟩, ⟨fun x hx => by rw [List.mem_singleton.mp hx]; omega, List.pairwise_singleton _ _⟩, by simp, fun x hx h2 => by
      rw [List.mem_singleton.mp hx] at h2
      have := of_decide_eq_true (List.mem_filter.mp h2).2
      omega, call_ret (d := r_l_question.d) rfl rfl (?_ : ∃ e1, execB (clI dat.pg n) b_l_question [some (.sh (.int z)), some (.sh (.int (c : Int))), none, none, none, none] = .rt _ e1)⟩
    have comp : evalE (clI dat.pg n) (.comp [4] (.nm 4 false) (.seq (.var 2)) (.som (.cmp .Lt (.var 4) (.bin .Sub (.var 1) (.cst (.int 1))))) (.var 4)) [some (.sh (.int z2)), some (.sh (.int (c : Int))), some (.l1 (O.map Dv.int)), some (.l1 [.int ((c : Int) - 1)]), s4, s5] = .ok (.l1 ((O.filter fun x => decide (x < (c : Int) - 1)).map Dv.int)) := by
      refine ev_comp (ds := O.map Dv.int) ?_ ?_
      · apply s_seq
        · walk_at "ev"
        · rfl
        · rfl
      · refine comp_flt Dv.int _ Dv.int O fun y _ => ?_
        have hcond : evalC (clI dat.pg n) (.som (.cmp .Lt (.var 4) (.bin .Sub (.var 1) (.cst (.int 1))))) [some (.sh (.int z2)), some (.sh (.int (c : Int))), some (.l1 (O.map Dv.int)), some (.l1 [.int ((c : Int) - 1)]), some (.sh (.int y)), s5] = .ok (decide (y < (c : Int) - 1)) := by
          apply ec_som
          walk_at "ev"
        cases hb : decide (y < (c : Int) - 1) with
        | true =>
          rw [hb] at hcond
          apply el_t (hc := hcond)
          · rfl
          · walk_at "ev"
          · rfl
        | false =>
          rw [hb] at hcond
          exact el_f rfl hcond
    unfold b_l_question
    apply Exists.intro
    walk_at "stp"
    walk_at "stp"
    apply nx_for (ds := (List.range' 0 c).map fun (i : Nat) => Dv.int (i : Int)) src
    · walk_at "nrm"
      exact q
    apply nx_iteT
    · walk_at "nrm"
      walk_at "ev"
    · rfl
    apply then_nx
    · walk_at "stp"
      walk_at "stp"
      exact blk_nil
    apply rt_ret
    walk_at "nrm"
    walk_at "ev"
  · refine ⟨O, A, ⟨iO, uO⟩, ⟨iA, uA⟩, hA, dj, call_ret (d := r_l_question.d) rfl rfl (?_ : ∃ e1, execB (clI dat.pg n) b_l_question [some (.sh (.int z)), some (.sh (.int (c : Int))), none, none, none, none] = .rt _ e1)⟩
    have lne : A.length ≠ 0 := fun h => hA (List.eq_nil_of_length_eq_zero h)
    unfold b_l_question
    apply Exists.intro
    walk_at "stp"
    walk_at "stp"
    apply nx_for (ds := (List.range' 0 c).map fun (i : Nat) => Dv.int (i : Int)) src
    · walk_at "nrm"
      exact q
    apply nx_iteF
    · walk_at "nrm"
      walk_at "ev"
    · exact decide_eq_false (by omega)
    refine then_nil ?_
    apply rt_ret
    walk_at "nrm"
    walk_at "ev"

/-! ### the law's own ways -/
abbrev shD (c : Int) (P R : List (Int × Int)) : Dv := .lst [.int c, .lst (P.map tp), .lst (R.map tp)]
theorem lupper_ok (n : Nat) (c : Int) (P R : List (Int × Int)) (N E : List Int) (D DE : Dv) (hD : Nms N D) (hE : Nms E DE) (lP : P.length ≤ 1000) (lN : N.length ≤ 100) (lE : E.length ≤ 1000) :
    callI dat.pg (n + 1) 62 [shD c P R, D, DE] = .ok (.sh (td (uppL P N E))) := by
  have hin := hD.inn
  have iD := hD.items
  have iE := hE.items
  refine call_ret (d := r_l_upper.d) rfl rfl (?_ : ∃ e1, execB (clI dat.pg n) b_l_upper [some (.sh (shD c P R)), some (.sh D), some (.sh DE), none, none, none, none, none] = .rt _ e1)
  have comp : evalE (clI dat.pg n) (.comp [4] (.nm 4 false) (.seq (.var 2)) .non (.var 4)) [some (.sh (shD c P R)), some (.sh D), some (.sh DE), none, none, none, none, none] = .ok (.l1 (E.map Dv.int)) := by
    refine ev_comp (ds := E.map Dv.int) ?_ ?_
    · apply s_seq
      · walk_at "ev"
      · rfl
      · exact iE
    · refine comp_all Dv.int Dv.int E fun y _ => ?_
      apply el_t
      · rfl
      · exact ec_non
      · walk_at "ev"
      · rfl
  have lU := upQ_len N P
  obtain ⟨⟨j5, j6, j7⟩, hj⟩ := for_fold (tg := .nm 5 false) (b := execB (clI dat.pg n) (b_l_upper.at 1).body) Dv.int (fun (s : List Int) (j : Option Sv × Option Sv × Option Sv) => ([some (.sh (shD c P R)), some (.sh D), some (.sh DE), some (.l1 (s.map Dv.int)), none, j.1, j.2.1, j.2.2] : Env)) (fun s _ => passF (upQ N P) s) N E (none, none, none) fun l a r j e => by
    rw [fold_passN]
    have ll : l.length < N.length := by rw [e, List.length_append, List.length_cons]; omega
    have sl := passN_len (upQ N P) l.length E
    have sl2 : l.length * (upQ N P).length ≤ 100 * 1000 := Nat.mul_le_mul (by omega) (by omega)
    generalize passN (upQ N P) l.length E = s at sl
    obtain ⟨j5, j6, j7⟩ := j
    obtain ⟨⟨i6, i7⟩, hi⟩ := for_fold (tg := .tp [6, 7]) (b := execB (clI dat.pg n) ((b_l_upper.at 1).body.at 0).body) tp (fun (s : List Int) (j : Option Sv × Option Sv) => ([some (.sh (shD c P R)), some (.sh D), some (.sh DE), some (.l1 (s.map Dv.int)), none, some (.sh (.int a)), j.1, j.2] : Env)) (stepU N) P s (j6, j7) fun l2 p r2 j e2 => by
      rw [fold_stepU]
      have l2l := fold_len (upQ N l2) s
      have l2u := upQ_len N l2
      have l2P : l2.length ≤ P.length := by rw [e2, List.length_append]; omega
      have hl : (passF (upQ N l2) s).length < 16777216 := by
        show (List.foldl stepF s (upQ N l2)).length < 16777216
        omega
      generalize passF (upQ N l2) s = t at hl
      refine ⟨[some (.sh (shD c P R)), some (.sh D), some (.sh DE), some (.l1 (t.map Dv.int)), none, some (.sh (.int a)), some (.sh (.int p.1)), some (.sh (.int p.2))], (some (.sh (.int p.1)), some (.sh (.int p.2))), rfl, ?_⟩
      have h1 := hin p.1
      dsimp only [b_l_upper, Blk.at, Stm.body]
      refine nx_ite (k := decide (p.2 ∈ t) && (decide (p.1 ∈ N) && !decide (p.1 ∈ t))) (e1 := [some (.sh (shD c P R)), some (.sh D), some (.sh DE), some (.l1 ((stepU N t p).map Dv.int)), none, some (.sh (.int a)), some (.sh (.int p.1)), some (.sh (.int p.2))]) ?_ (fun h => ?_) (fun h => ?_) blk_nil
      · walk_at "nrm"
        walk_at "ev"
      · have hc : p.2 ∈ t ∧ p.1 ∈ N ∧ p.1 ∉ t := by simpa using h
        have e1 : stepU N t p = t ++ [p.1] := if_pos hc
        rw [e1, List.map_append]
        walk_at "stp"
        exact blk_nil
      · have hc : ¬ (p.2 ∈ t ∧ p.1 ∈ N ∧ p.1 ∉ t) := fun z => by
          rw [decide_eq_true z.1, decide_eq_true z.2.1, decide_eq_false z.2.2] at h
          cases h
        have e1 : stepU N t p = t := if_neg hc
        rw [e1]
        exact blk_nil
    rw [fold_stepU] at hi
    refine ⟨[some (.sh (shD c P R)), some (.sh D), some (.sh DE), some (.l1 (s.map Dv.int)), none, some (.sh (.int a)), j6, j7], (some (.sh (.int a)), i6, i7), rfl, ?_⟩
    dsimp only [b_l_upper, Blk.at, Stm.body] at hi ⊢
    apply nx_for (ds := P.map tp)
    · apply s_seq
      · walk_at "nrm"
        walk_at "ev"
      · rfl
      · rfl
    · walk_at "nrm"
      with_reducible exact hi
    exact blk_nil
  rw [fold_passN] at hj
  have sr := bc_sortI (passN (upQ N P) N.length E)
  dsimp only [b_l_upper, Blk.at, Stm.body] at hj
  unfold b_l_upper uppL
  apply Exists.intro
  walk_at "stp"
  apply nx_for (ds := N.map Dv.int)
  · apply s_seq
    · walk_at "nrm"
      walk_at "ev"
    · rfl
    · exact iD
  · walk_at "nrm"
    with_reducible exact hj
  apply rt_ret
  walk_at "nrm"
  walk_at "ev"
theorem flt_comp {cl : Cl} {i : Nat} {src : Src} {cond : Ox} {e : Env} {l : List Int} (p : Int → Bool) (hs : evalS cl false src e = .ok (l.map Dv.int)) (h : ∀ y ∈ l, ∃ e1, bindD (.nm i false) (.int y) (wipeE [i] e) = some e1 ∧ evalC cl cond e1 = .ok (p y) ∧ evalE cl (.var i) e1 = .ok (.sh (.int y))) :
    evalE cl (.comp [i] (.nm i false) src cond (.var i)) e = .ok (.l1 ((l.filter p).map Dv.int)) :=
  ev_comp hs (comp_flt Dv.int p Dv.int l fun y hy => by
    obtain ⟨e1, h1, h2, h3⟩ := h y hy
    cases hb : p y with
    | true =>
      rw [hb] at h2
      exact el_t h1 h2 h3 rfl
    | false =>
      rw [hb] at h2
      exact el_f h1 h2)
theorem lumpsL (n : Nat) (c : Nat) (hc : c ≤ 6) (P R : List (Int × Int)) (N : List Int) (D : Dv) (hD : Nms N D) (hN : Within c N) (lR : R.length ≤ 1000) (lN : N.length ≤ 6) : ∀ (m : Nat) (l : List Int) (G : List (List Int)) (s4 s5 s6 s7 s8 : Option Sv) (t : Nat), l.length ≤ m → m < t → G.length + l.length ≤ 1000 → (∀ x ∈ l, x ∈ N) →
    ∃ s3' s4' s5' s6' s7', whileI (evalT (clI dat.pg n) (.cmp .Gt (.bc .len (.cons (.var 3) .nil)) (.cst (.int 0)))) (execB (clI dat.pg n) (b_l_lumps.at 2).body) [] t [some (.sh (shD (c : Int) P R)), some (.sh D), some (.l1 (G.map td)), some (.sh (.lst (l.map Dv.int))), s4, s5, s6, s7, s8] =
      .nx [some (.sh (shD (c : Int) P R)), some (.sh D), some (.l1 ((G ++ lawL N R m l).map td)), s3', s4', s5', s6', s7', s8] := by
  have hin := hD.inn
  have iD := hD.items
  intro m
  induction m with
  | zero =>
    intro l G s4 s5 s6 s7 s8 t h1 h2 _ _
    have : l = [] := by cases l with | nil => rfl | cons _ _ => simp at h1
    subst this
    obtain ⟨t, rfl⟩ : ∃ k, t = k + 1 := ⟨t - 1, by omega⟩
    refine ⟨some (.sh (.lst [])), s4, s5, s6, s7, ?_⟩
    rw [while_f (ev_t (by walk_at "nrm"; walk_at "ev"))]
    unfold lawL
    rw [List.append_nil]
    rfl
  | succ m ih =>
    intro l G s4 s5 s6 s7 s8 t h1 h2 h3 hs
    obtain ⟨t, rfl⟩ : ∃ k, t = k + 1 := ⟨t - 1, by omega⟩
    cases l with
    | nil =>
      refine ⟨some (.sh (.lst [])), s4, s5, s6, s7, ?_⟩
      rw [while_f (ev_t (by walk_at "nrm"; walk_at "ev"))]
      unfold lawL
      rw [List.append_nil]
      rfl
    | cons x r =>
      have hx : x ∈ N := hs x List.mem_cons_self
      have hlen := len_int (x :: r)
      have hcond : evalE (clI dat.pg n) (.cmp .Gt (.bc .len (.cons (.var 3) .nil)) (.cst (.int 0))) [some (.sh (shD (c : Int) P R)), some (.sh D), some (.l1 (G.map td)), some (.sh (.lst ((x :: r).map Dv.int))), s4, s5, s6, s7, s8] = .ok (.sh (.bl true)) := by
        have h0 : cmpop .Gt (.int ((x :: r).length : Int)) (.int 0) = .ok true := by
          rw [c_gt, decide_eq_true (by rw [List.length_cons]; omega)]
        walk_at "ev"
      have xin : x ∈ lumpOf N R x := List.mem_mergeSort.mpr (passN_sub (List.mem_singleton.mpr rfl))
      have len : ((x :: r).filter fun y => !decide (y ∈ lumpOf N R x)).length ≤ r.length := by
        rw [List.filter_cons, if_neg (by rw [decide_eq_true xin]; exact Bool.false_ne_true)]
        exact List.length_filter_le _ r
      rw [List.length_cons] at h1 h3
      have lD := dbl_len N R
      -- one lump
      obtain ⟨⟨j5, j6, j7⟩, hj⟩ := for_fold (tg := .nm 5 false) (b := execB (clI dat.pg n) ((b_l_lumps.at 2).body.at 1).body) Dv.int (fun (s : List Int) (j : Option Sv × Option Sv × Option Sv) => ([some (.sh (shD (c : Int) P R)), some (.sh D), some (.l1 (G.map td)), some (.sh (.lst ((x :: r).map Dv.int))), some (.l1 (s.map Dv.int)), j.1, j.2.1, j.2.2, s8] : Env)) (fun s _ => passF (dblQ N R) s) N [x] (s5, s6, s7) fun l a r' j e => by
        rw [fold_passN]
        have ll : l.length < N.length := by rw [e, List.length_append, List.length_cons]; omega
        have sl := passN_len (dblQ N R) l.length [x]
        have sl2 : l.length * (dblQ N R).length ≤ 6 * 2000 := Nat.mul_le_mul (by omega) (by omega)
        rw [List.length_singleton] at sl
        generalize passN (dblQ N R) l.length [x] = s at sl
        obtain ⟨j5, j6, j7⟩ := j
        obtain ⟨⟨i6, i7⟩, hi⟩ := for_fold (tg := .tp [6, 7]) (b := execB (clI dat.pg n) (((b_l_lumps.at 2).body.at 1).body.at 0).body) tp (fun (s : List Int) (j : Option Sv × Option Sv) => ([some (.sh (shD (c : Int) P R)), some (.sh D), some (.l1 (G.map td)), some (.sh (.lst ((x :: r).map Dv.int))), some (.l1 (s.map Dv.int)), some (.sh (.int a)), j.1, j.2, s8] : Env)) (stepB N) R s (j6, j7) fun l2 p r2 j e2 => by
          rw [fold_stepB]
          have l2l := fold_len (dblQ N l2) s
          have l2u := dbl_len N l2
          have l2P : l2.length ≤ R.length := by rw [e2, List.length_append]; omega
          have hl : (passF (dblQ N l2) s).length < 16777216 := by
            show (List.foldl stepF s (dblQ N l2)).length < 16777216
            omega
          generalize passF (dblQ N l2) s = t at hl
          refine ⟨[some (.sh (shD (c : Int) P R)), some (.sh D), some (.l1 (G.map td)), some (.sh (.lst ((x :: r).map Dv.int))), some (.l1 (t.map Dv.int)), some (.sh (.int a)), some (.sh (.int p.1)), some (.sh (.int p.2)), s8], (some (.sh (.int p.1)), some (.sh (.int p.2))), rfl, ?_⟩
          have q1 := hin p.1
          have q2 := hin p.2
          dsimp only [b_l_lumps, Blk.at, Stm.body]
          refine nx_ite (k := decide (p.1 ∈ N) && (decide (p.2 ∈ N) && !decide (decide (p.1 ∈ t) = decide (p.2 ∈ t)))) (e1 := [some (.sh (shD (c : Int) P R)), some (.sh D), some (.l1 (G.map td)), some (.sh (.lst ((x :: r).map Dv.int))), some (.l1 ((stepB N t p).map Dv.int)), some (.sh (.int a)), some (.sh (.int p.1)), some (.sh (.int p.2)), s8]) ?_ (fun h => ?_) (fun h => ?_) blk_nil
          · walk_at "nrm"
            walk_at "ev"
          · rw [Bool.and_eq_true, Bool.and_eq_true, decide_eq_true_eq, decide_eq_true_eq, Bool.not_eq_true', decide_eq_false_iff_not] at h
            have hc : p.1 ∈ N ∧ p.2 ∈ N ∧ ¬ (p.1 ∈ t ↔ p.2 ∈ t) := ⟨h.1, h.2.1, fun z => h.2.2 (decide_eq_decide.mpr z)⟩
            have e1 : stepB N t p = t ++ [if p.1 ∈ t then p.2 else p.1] := if_pos hc
            rw [e1, List.map_append]
            have ix : index (.lst [.int p.1, .int p.2]) (.int (if decide (p.1 ∈ t) = true then 1 else 0)) = .ok (.int (if p.1 ∈ t then p.2 else p.1)) := by
              by_cases ht : p.1 ∈ t
              · rw [if_pos (decide_eq_true ht), if_pos ht]; rfl
              · rw [if_neg (by rw [decide_eq_false ht]; exact Bool.false_ne_true), if_neg ht]; rfl
            walk_at "stp"
            exact blk_nil
          · have hc : ¬ (p.1 ∈ N ∧ p.2 ∈ N ∧ ¬ (p.1 ∈ t ↔ p.2 ∈ t)) := fun z => by
              have z3 : decide (decide (p.1 ∈ t) = decide (p.2 ∈ t)) = false := decide_eq_false fun w => z.2.2 (decide_eq_decide.mp w)
              rw [decide_eq_true z.1, decide_eq_true z.2.1, z3] at h
              cases h
            have e1 : stepB N t p = t := if_neg hc
            rw [e1]
            exact blk_nil
        rw [fold_stepB] at hi
        refine ⟨[some (.sh (shD (c : Int) P R)), some (.sh D), some (.l1 (G.map td)), some (.sh (.lst ((x :: r).map Dv.int))), some (.l1 (s.map Dv.int)), some (.sh (.int a)), j6, j7, s8], (some (.sh (.int a)), i6, i7), rfl, ?_⟩
        dsimp only [b_l_lumps, Blk.at, Stm.body] at hi ⊢
        apply nx_for (ds := R.map tp)
        · apply s_seq
          · walk_at "nrm"
            walk_at "ev"
          · rfl
          · rfl
        · walk_at "nrm"
          with_reducible exact hi
        exact blk_nil
      rw [fold_passN] at hj
      have same : (passN (dblQ N R) N.length [x]).mergeSort leZ = lumpOf N R x := lumpB_of hc hN hx
      have inn : ∀ y, y ∈ passN (dblQ N R) N.length [x] ↔ y ∈ lumpOf N R x := fun y => lumpB_in hc hN hx y
      have sr := bc_sortI (passN (dblQ N R) N.length [x])
      rw [same] at sr
      generalize passN (dblQ N R) N.length [x] = lp at hj inn sr
      obtain ⟨s3', s4', s5', s6', s7', hr⟩ := ih ((x :: r).filter fun y => !decide (y ∈ lumpOf N R x)) (G ++ [lumpOf N R x]) (some (.l1 (lp.map Dv.int))) j5 j6 j7 s8 t (by omega) (by omega) (by rw [List.length_append]; show _ + 1 + _ ≤ _; omega) fun y hy => hs y (List.mem_filter.mp hy).1
      refine ⟨s3', s4', s5', s6', s7', ?_⟩
      have hG : G.length < LIM := by unfold LIM; omega
      have comp : evalE (clI dat.pg n) (.comp [8] (.nm 8 false) (.seq (.var 3)) (.som (.cmp .NotIn (.var 8) (.var 4))) (.var 8)) [some (.sh (shD (c : Int) P R)), some (.sh D), some (.l1 (List.map td G ++ [td (lumpOf N R x)])), some (.sh (.lst ((x :: r).map Dv.int))), some (.l1 (lp.map Dv.int)), j5, j6, j7, s8] = .ok (.l1 (((x :: r).filter fun y => !decide (y ∈ lumpOf N R x)).map Dv.int)) := by
        refine flt_comp (l := x :: r) (fun y => !decide (y ∈ lumpOf N R x)) ?_ fun y _ => ⟨_, rfl, ?_, ?_⟩
        · apply s_seq
          · walk_at "ev"
          · rfl
          · rfl
        · rw [← decide_eq_decide.mpr (inn y)]
          apply ec_som
          walk_at "ev"
        · walk_at "ev"
      have first : index (.lst ((x :: r).map Dv.int)) (.int 0) = .ok (.int x) := ixl_int (ns := x :: r) (k := 0) (by rw [List.length_cons]; omega)
      have body : execB (clI dat.pg n) (b_l_lumps.at 2).body [some (.sh (shD (c : Int) P R)), some (.sh D), some (.l1 (G.map td)), some (.sh (.lst ((x :: r).map Dv.int))), s4, s5, s6, s7, s8] =
          .nx [some (.sh (shD (c : Int) P R)), some (.sh D), some (.l1 ((G ++ [lumpOf N R x]).map td)), some (.sh (.lst (((x :: r).filter fun y => !decide (y ∈ lumpOf N R x)).map Dv.int))), some (.l1 (lp.map Dv.int)), j5, j6, j7, s8] := by
        dsimp only [b_l_lumps, Blk.at, Stm.body] at hj ⊢
        rw [List.map_append]
        walk_at "stp"
        apply nx_for (ds := N.map Dv.int)
        · apply s_seq
          · walk_at "nrm"
            walk_at "ev"
          · rfl
          · exact iD
        · walk_at "nrm"
          exact hj
        walk_at "stp"
        walk_at "stp"
        exact blk_nil
      refine (while_t (fz := []) (ev_t hcond) body).trans (hr.trans ?_)
      rw [List.append_assoc]
      rfl
theorem llumps_ok (n : Nat) (c : Nat) (hc : c ≤ 6) (P R : List (Int × Int)) (N : List Int) (D : Dv) (hD : Nms N D) (hN : Within c N) (lR : R.length ≤ 1000) (lN : N.length ≤ 6) :
    callI dat.pg (n + 1) 64 [shD (c : Int) P R, D] = .ok (.l1 ((LL N R).map td)) := by
  have lst := hD.list
  refine call_retL (d := r_l_lumps.d) rfl rfl (?_ : ∃ e1, execB (clI dat.pg n) b_l_lumps [some (.sh (shD (c : Int) P R)), some (.sh D), none, none, none, none, none, none, none] = .rt _ e1)
  obtain ⟨s3, s4, s5, s6, s7, hw⟩ := lumpsL n c hc P R N D hD hN lR lN N.length N [] none none none none none TURNS (Nat.le_refl _) (by
    have : (1000 : Nat) ≤ TURNS := by unfold TURNS; exact Nat.le_trans (by decide : (1000 : Nat) ≤ 10 ^ 3) (Nat.pow_le_pow_right (by decide) (by decide))
    omega) (by show 0 + _ ≤ _; omega) fun _ h => h
  dsimp only [b_l_lumps, Blk.at, Stm.body] at hw
  unfold b_l_lumps
  apply Exists.intro
  walk_at "stp"
  walk_at "stp"
  apply (blk_nx (st_whl.trans hw)).trans
  exact rt_retv rfl

/-! ### wanted names, here and there -/
abbrev restN (c : Nat) (O : List Int) : List Int := (nums (List.range c)).filter fun x => !decide (x ∈ O)
abbrev wantL (c : Nat) (P : List (Int × Int)) (O A : List Int) : List Int := uppL P (restN c O) A
theorem st_rest (c : Nat) (O : List Int) : St c (restN c O) := (st_all c).sub List.filter_sublist
theorem rest_in {c : Nat} {O A : List Int} (hA : St c A) (dj : ∀ x ∈ A, x ∉ O) : ∀ x ∈ A, x ∈ restN c O := fun x hx => by
  obtain ⟨h1, h2⟩ := hA.1 x hx
  exact List.mem_filter.mpr ⟨all_mem h1 h2, by rw [decide_eq_false (dj x hx)]; rfl⟩
theorem st_want {c : Nat} {P : List (Int × Int)} {O A : List Int} (hA : St c A) (dj : ∀ x ∈ A, x ∉ O) : St c (wantL c P O A) := (st_rest c O).upp (rest_in hA dj) hA.nd
theorem src_all {cl : Cl} {b : Bool} {e : Env} {a : Ex} {c : Nat} (ha : evalE cl a e = .ok (.sh (.int (c : Int)))) (hc : c ≤ 100) : evalS cl b (.rng1 a) e = .ok ((nums (List.range c)).map Dv.int) := by
  rw [← rng_ints]
  exact s_rngN ha (by unfold LIM; omega)
theorem lwanted_ok (n : Nat) (c : Nat) (hc : c ≤ 6) (P R : List (Int × Int)) (O A : List Int) (lP : P.length ≤ 1000) (hA : St c A) : callI dat.pg (n + 2) 77 [shD (c : Int) P R, .tup [td O, td A]] = .ok (.sh (td (wantL c P O A))) := by
  refine call_ret (d := r_l_wanted.d) rfl rfl (?_ : ∃ e1, execB (clI dat.pg (n + 1)) b_l_wanted [some (.sh (shD (c : Int) P R)), some (.sh (.tup [td O, td A])), none, none] = .rt _ e1)
  have lr := (st_rest c O).len
  have lA := hA.len
  have up := lupper_ok n (c : Int) P R (restN c O) A _ _ .l .t lP (by omega) (by omega)
  have comp : evalE (clI dat.pg (n + 1)) (.comp [3] (.nm 3 false) (.rng1 (.idx (.var 0) (.cst (.int 0)))) (.som (.cmp .NotIn (.var 3) (.idx (.var 1) (.cst (.int 0))))) (.var 3)) [some (.sh (shD (c : Int) P R)), some (.sh (.tup [td O, td A])), none, none] = .ok (.l1 ((restN c O).map Dv.int)) := by
    refine flt_comp (l := nums (List.range c)) (fun x => !decide (x ∈ O)) (src_all (by walk_at "ev") (by omega)) fun y _ => ⟨_, rfl, ?_, ?_⟩
    · apply ec_som
      walk_at "ev"
    · walk_at "ev"
  unfold b_l_wanted
  apply Exists.intro
  walk_at "stp"
  apply rt_ret
  walk_at "nrm"
  walk_at "ev"
section
variable (n : Nat) (c : Nat) (hc : 1 ≤ c ∧ c ≤ 6) (P R : List (Int × Int)) (hP : SPr c P) (hR : SPr c R) (lP : P.length ≤ 1000) (lR : R.length ≤ 6)
include hc hP hR lP lR
theorem set_go (N : List Int) (hN : St c N) : callI dat.pg (n + 2) 52 [drQ (c : Int) P R, td N] = .ok (.sh .non) := by
  have h := look_set n (c : Int) (.tup (P.map tp)) (.tup (R.map tp)) N (by have := hN.len; omega)
  rw [hN.is, if_pos rfl] at h
  exact h
theorem plumps_ok (N : List Int) (hN : St c N) : callI dat.pg (n + 3) 57 [drQ (c : Int) P R, td N] = .ok (.l1 ((LL N R).map td)) := by
  have ll := hN.len
  have h := lumps_ok n (c : Int) (.tup (P.map tp)) R N hN.nd (by omega) hN.is
  have I := li_fold (l := R) (li_start (N := N) (Q := R) hN.nd) fun p hp => hp
  rw [List.nil_append] at I
  rw [lumps_same (Q := R) hc.2 hN.1 hN.2 (List.Perm.refl R) I] at h
  exact h
theorem panc_ok (N E : List Int) (hN : St c N) (hE : St c E) (hs : ∀ x ∈ E, x ∈ N) : ∃ D, callI dat.pg (n + 3) 58 [drQ (c : Int) P R, td N] = .ok (.sh (.obj 43 D)) ∧ callI dat.pg (n + 3) 55 [.obj 43 D, td E] = .ok (.sh (td (uppL P N E))) := by
  have lN := hN.len
  have lE := hE.len
  have h1 := part_ok n c hc P R hP hR lP lR N (by omega) hN.is
  have lf := List.length_filter_le (inN N) P
  have h2 := anc_ok n (c : Int) (P.filter (inN N)) (.tup ((R.filter (inN N)).map tp)) E (by omega) hE.is
  rw [anc_upp hP.ties hP.srt hs hE.1 hE.nd] at h2
  exact ⟨_, h1, h2⟩
theorem quest_go (O A : List Int) (hO : St c O) (hA : St c A) (ne : A ≠ []) (dj : ∀ x ∈ A, x ∉ O) : callI dat.pg (n + 3) 70 [drQ (c : Int) P R, .tup [td O, td A]] = .ok (.sh .non) := by
  have h1 := set_go n c hc P R hP hR lP lR O hO
  have h2 := set_go n c hc P R hP hR lP lR A hA
  refine call_end (d := r_look_at_question.d) rfl rfl (?_ : ∃ e1, execB (clI dat.pg (n + 2)) b_look_at_question [some (.sh (drQ (c : Int) P R)), some (.sh (.tup [td O, td A])), none, none, none] = .nx e1)
  have comp : evalE (clI dat.pg (n + 2)) (.comp [4] (.nm 4 false) (.seq (.var 3)) (.som (.cmp .In (.var 4) (.var 2))) (.var 4)) [some (.sh (drQ (c : Int) P R)), some (.sh (.tup [td O, td A])), some (.sh (td O)), some (.sh (td A)), none] = .ok (.l1 []) := by
    have h := flt_comp (cl := clI dat.pg (n + 2)) (i := 4) (src := .seq (.var 3)) (cond := .som (.cmp .In (.var 4) (.var 2))) (e := [some (.sh (drQ (c : Int) P R)), some (.sh (.tup [td O, td A])), some (.sh (td O)), some (.sh (td A)), none]) (l := A) (fun x => decide (x ∈ O)) (by
      apply s_seq
      · walk_at "ev"
      · rfl
      · rfl) fun y _ => ⟨_, rfl, by
        apply ec_som
        walk_at "ev", by walk_at "ev"⟩
    rw [List.filter_eq_nil_iff.mpr fun x hx z => dj x hx (of_decide_eq_true z)] at h
    exact h
  have e1 : cmpop .Eq (.tup (A.map Dv.int)) (.tup []) = .ok false := by
    have := c_eq_td A []
    rw [decide_eq_false ne] at this
    exact this
  have e2 : cmpop .NotEq (.lst []) (.lst []) = .ok false := c_ne_ints [] []
  unfold b_look_at_question
  apply Exists.intro
  walk_at "stp"
  walk_at "stp"
  walk_at "stp"
  apply nx_iteF
  · walk_at "nrm"
    walk_at "ev"
  · rfl
  exact then_nil blk_nil
omit hP hR lP lR in
theorem every_ok : callI dat.pg (n + 1) 71 [drQ (c : Int) P R] = .ok (.sh (td (nums (List.range c)))) := by
  refine call_ret (d := r_every_name.d) rfl rfl (?_ : ∃ e1, execB (clI dat.pg n) b_every_name [some (.sh (drQ (c : Int) P R))] = .rt _ e1)
  unfold b_every_name
  apply Exists.intro
  apply rt_ret
  refine ev_rngT ?_ (by unfold LIM; omega)
  walk_at "nrm"
  walk_at "ev"
end
theorem without_ok (n : Nat) (N M : List Int) : callI dat.pg (n + 1) 72 [td N, td M] = .ok (.sh (td (N.filter fun x => !decide (x ∈ M)))) := by
  refine call_ret (d := r_without.d) rfl rfl (?_ : ∃ e1, execB (clI dat.pg n) b_without [some (.sh (td N)), some (.sh (td M)), none] = .rt _ e1)
  have comp : evalE (clI dat.pg n) (.comp [2] (.nm 2 false) (.seq (.var 0)) (.som (.cmp .NotIn (.var 2) (.var 1))) (.var 2)) [some (.sh (td N)), some (.sh (td M)), none] = .ok (.l1 ((N.filter fun x => !decide (x ∈ M)).map Dv.int)) := by
    refine flt_comp (l := N) (fun x => !decide (x ∈ M)) ?_ fun y _ => ⟨_, rfl, ?_, ?_⟩
    · apply s_seq
      · walk_at "ev"
      · rfl
      · rfl
    · apply ec_som
      walk_at "ev"
    · walk_at "ev"
  unfold b_without
  apply Exists.intro
  apply rt_ret
  walk_at "nrm"
  walk_at "ev"
section
variable (n : Nat) (c : Nat) (hc : 1 ≤ c ∧ c ≤ 6) (P R : List (Int × Int)) (hP : SPr c P) (hR : SPr c R) (lP : P.length ≤ 1000) (lR : R.length ≤ 6)
include hc hP hR lP lR
theorem wanted_ok (O A : List Int) (hO : St c O) (hA : St c A) (ne : A ≠ []) (dj : ∀ x ∈ A, x ∉ O) :
    callI dat.pg (n + 4) 73 [drQ (c : Int) P R, .tup [td O, td A]] = .ok (.sh (.tup [td (wantL c P O A), .lst ((LL (wantL c P O A) R).map td)])) := by
  have q := quest_go n c hc P R hP hR lP lR O A hO hA ne dj
  have ev := every_ok (n + 2) c hc P R
  have wo := without_ok (n + 2) (nums (List.range c)) O
  obtain ⟨D, p1, p2⟩ := panc_ok n c hc P R hP hR lP lR (restN c O) A (st_rest c O) hA (rest_in hA dj)
  have lu := plumps_ok n c hc P R hP hR lP lR (wantL c P O A) (st_want hA dj)
  refine call_ret (d := r_wanted.d) rfl rfl (?_ : ∃ e1, execB (clI dat.pg (n + 3)) b_wanted [some (.sh (drQ (c : Int) P R)), some (.sh (.tup [td O, td A])), none, none, none] = .rt _ e1)
  unfold b_wanted
  apply Exists.intro
  walk_at "stp"
  walk_at "stp"
  walk_at "stp"
  apply rt_ret
  walk_at "nrm"
  walk_at "ev"
end
/-! ### a nest bars -/
def barsB (c : Nat) (P R : List (Int × Int)) (O A I U : List Int) : Bool := decide (I ≠ [] ∧ I ≠ U ∧ (∀ x ∈ I, x ∈ wantL c P O A ∧ x ∈ U) ∧ LL I R = [I] ∧ LL U R = [U] ∧ uppL P U I = U ∧ ∃ x ∈ O, x ∈ U)
theorem flt_nil {l : List Int} {p : Int → Bool} : (l.filter p = []) ↔ ∀ x ∈ l, p x = false := by
  rw [List.filter_eq_nil_iff]
  exact ⟨fun h x hx => by have := h x hx; cases q : p x with | true => exact absurd q this | false => rfl, fun h x hx z => by rw [h x hx] at z; cases z⟩

structure Fit (m : Nat) (D : Dv) : Prop where
  lay : (toP D).canLay0 = true
  dep : (toP D).depth ≤ m
theorem Fit.up {m k : Nat} {D : Dv} (h : Fit m D) (hk : m ≤ k) : Fit k D := ⟨h.lay, Nat.le_trans h.dep hk⟩
theorem fit_all {m : Nat} : ∀ {xs : List Dv}, (∀ x ∈ xs, Fit m x) → PyData.canLayAll0 (toPs xs) = true ∧ PyData.depthAll (toPs xs) ≤ m
  | [], _ => ⟨rfl, Nat.zero_le _⟩
  | x :: xs, h => by
    have h1 := h x List.mem_cons_self
    have h2 := fit_all (xs := xs) fun y hy => h y (List.mem_cons_of_mem _ hy)
    refine ⟨?_, ?_⟩
    · show (PyData.canLay0 (toP x) && PyData.canLayAll0 (toPs xs)) = true
      rw [h1.lay, h2.1]
      rfl
    · show max (PyData.depth (toP x)) (PyData.depthAll (toPs xs)) ≤ m
      exact Nat.max_le.mpr ⟨h1.dep, h2.2⟩
theorem fit_tup {m : Nat} {xs : List Dv} (h : ∀ x ∈ xs, Fit m x) : Fit (m + 1) (.tup xs) := by
  obtain ⟨h1, h2⟩ := fit_all h
  refine ⟨h1, ?_⟩
  show PyData.depth (.tuple (toPs xs)) ≤ m + 1
  unfold PyData.depth
  omega
theorem fit_int (i : Int) : Fit 0 (.int i) := ⟨rfl, Nat.le_refl _⟩
theorem fit_td (N : List Int) : Fit 1 (td N) := fit_tup fun x hx => by
  obtain ⟨i, _, rfl⟩ := List.mem_map.mp hx
  exact fit_int i
theorem ok_fit {m : Nat} {D : Dv} (h : Fit m D) (hm : m ≤ 64) : okD D = true := by
  show ((toP D).canLay0 && decide ((toP D).depth ≤ 64)) = true
  rw [h.lay, decide_eq_true (Nat.le_trans h.dep hm)]
  rfl
theorem c_eq_same {m : Nat} {D : Dv} (h : Fit m D) (hm : m ≤ 64) : cmpop .Eq D D = .ok true := by
  show (if okD D && okD D then Rs.ok (eqD D D) else .no) = _
  rw [ok_fit h hm]
  show Rs.ok (PyData.eqv (toP D) (toP D)) = _
  rw [PySem.SeqAt.eqv_refl _ h.lay]
theorem c_ne_same {D : Dv} (h : cmpop .Eq D D = .ok true) : cmpop .NotEq D D = .ok false := by
  have h : (if (okD D && okD D) = true then Rs.ok (eqD D D) else .no) = .ok true := h
  show (if (okD D && okD D) = true then Rs.ok (!eqD D D) else .no) = _
  by_cases q : (okD D && okD D) = true
  · rw [if_pos q] at h ⊢
    cases e : eqD D D with
    | true => rfl
    | false => rw [e] at h; cases h
  · rw [if_neg q] at h
    cases h
theorem fit_lst {m : Nat} {xs : List Dv} (h : ∀ x ∈ xs, Fit m x) : Fit (m + 1) (.lst xs) := by
  obtain ⟨h1, h2⟩ := fit_all h
  exact ⟨h1, by show PyData.depthAll (toPs xs) + 1 ≤ m + 1; omega⟩
theorem fit_two (W : List Int) (Ls : List (List Int)) : Fit 3 (.tup [td W, .lst (Ls.map td)]) := fit_tup fun x hx => by
  simp only [List.mem_cons, List.not_mem_nil, or_false] at hx
  rcases hx with rfl | rfl
  · exact (fit_td W).up (by omega)
  · refine fit_lst fun y hy => ?_
    obtain ⟨z, _, rfl⟩ := List.mem_map.mp hy
    exact fit_td z
theorem isn_ok (n : Nat) (c : Int) (ns : List Int) (hl : ns.length ≤ 1000000) : callI dat.pg (n + 1) 80 [.int c, td ns] = .ok (.sh (.bl (isSetB c ns))) := by
  have hl2 := len_intT ns
  refine call_ret (d := r_l_is_names.d) rfl rfl (?_ : ∃ e1, execB (clI dat.pg n) b_l_is_names [some (.sh (.int c)), some (.sh (td ns)), none] = .rt _ e1)
  unfold b_l_is_names
  have src : ∀ o, evalS (clI dat.pg n) true (.rng1 (.bc .len (.cons (.var 1) .nil))) [some (.sh (.int c)), some (.sh (td ns)), o] = .ok ((List.range ns.length).map fun (i : Nat) => Dv.int (i : Int)) := fun o => by
    rw [← rng_natR]
    refine s_rngN ?_ (by unfold LIM; omega)
    walk_at "ev"
  have lp := for_search (tg := .nm 2 false) (b := execB (clI dat.pg n) (.cons (.ite [] (.or (.cmp .Lt (.idx (.var 1) (.var 2)) (.cst (.int 0))) (.or (.cmp .GtE (.idx (.var 1) (.var 2)) (.var 0)) (.and (.cmp .Gt (.var 2) (.cst (.int 0))) (.cmp .LtE (.idx (.var 1) (.var 2)) (.idx (.var 1) (.bin .Sub (.var 2) (.cst (.int 1)))))))) (.cons (.ret [] (.cst (.bl false))) .nil) .nil) .nil))
    (fun (i : Nat) => Dv.int (i : Int)) (fun (o : Option Sv) => [some (.sh (.int c)), some (.sh (td ns)), o]) (fun k => !(decide (gI ns k < 0) || (decide (c ≤ gI ns k) || (decide (0 < (k : Int)) && decide (gI ns k ≤ gI ns (k - 1))))))
    (.sh (.bl false)) (List.range ns.length) none (fun k o hk => by
      have hk := List.mem_range.mp hk
      refine ⟨[some (.sh (.int c)), some (.sh (td ns)), some (.sh (.int (k : Int)))], rfl, ?_⟩
      have i1 := ixt_gI hk
      have i2 : decide (0 < (k : Int)) = true → index (td ns) (.int ((k : Int) - 1)) = .ok (.int (gI ns (k - 1))) := fun h0 => by
        have h0 := of_decide_eq_true h0
        have := ixt_gI (show k - 1 < ns.length by omega)
        rw [show ((k - 1 : Nat) : Int) = (k : Int) - 1 by omega] at this
        exact this
      have cond : evalE (clI dat.pg n) (.or (.cmp .Lt (.idx (.var 1) (.var 2)) (.cst (.int 0))) (.or (.cmp .GtE (.idx (.var 1) (.var 2)) (.var 0)) (.and (.cmp .Gt (.var 2) (.cst (.int 0))) (.cmp .LtE (.idx (.var 1) (.var 2)) (.idx (.var 1) (.bin .Sub (.var 2) (.cst (.int 1)))))))) [some (.sh (.int c)), some (.sh (td ns)), some (.sh (.int (k : Int)))] = .ok (.sh (.bl (decide (gI ns k < 0) || (decide (c ≤ gI ns k) || (decide (0 < (k : Int)) && decide (gI ns k ≤ gI ns (k - 1))))))) := by
        refine ev_orD (by walk_at "ev") fun _ => ev_orD (by walk_at "ev") fun _ => ev_andD (by walk_at "ev") fun h0 => ?_
        have i2 := i2 h0
        walk_at "ev"
      cases hb : (decide (gI ns k < 0) || (decide (c ≤ gI ns k) || (decide (0 < (k : Int)) && decide (gI ns k ≤ gI ns (k - 1))))) with
      | true =>
        rw [hb] at cond
        refine .inr ⟨rfl, ?_⟩
        apply Exists.intro; apply nx_iteT cond rfl
        apply then_rt
        · apply rt_ret
          walk_at "ev"
        · rfl
      | false =>
        rw [hb] at cond
        exact .inl ⟨rfl, _, nx_iteF cond rfl (then_nil blk_nil)⟩)
  rcases lp with ⟨h1, j', h2⟩ | ⟨h1, e2, h2⟩
  · have e : isSetB c ns = true := h1
    rw [e]
    exact ⟨_, nx_for (fz := []) (src none) h2 (rt_ret ev_cst)⟩
  · have e : isSetB c ns = false := h1
    rw [e]
    exact ⟨_, nx_forR (fz := []) (src none) h2 rfl⟩
/-! ### what is due -/
def dueS (c : Nat) (O A : List Int) : PySem.Str := if !isSetB (c : Int) O || !isSetB (c : Int) A then "NoName" else if decide (A = []) || !decide ((A.filter fun x => decide (x ∈ O)) = []) then "NoSets" else ""
theorem flt_in (n : Nat) (s0 s1 : Option Sv) (O A : List Int) : evalE (clI dat.pg n) (.comp [4] (.nm 4 false) (.seq (.var 3)) (.som (.cmp .In (.var 4) (.var 2))) (.var 4)) [s0, s1, some (.sh (td O)), some (.sh (td A)), none] = .ok (.l1 ((A.filter fun x => decide (x ∈ O)).map Dv.int)) := by
  refine ev_comp (ds := A.map Dv.int) (s_seq (ev_var rfl rfl) rfl rfl) ?_
  refine comp_flt Dv.int (fun x => decide (x ∈ O)) Dv.int A fun x _ => ?_
  have hcond : evalC (clI dat.pg n) (.som (.cmp .In (.var 4) (.var 2))) [s0, s1, some (.sh (td O)), some (.sh (td A)), some (.sh (.int x))] = .ok (decide (x ∈ O)) := by
    apply ec_som
    walk_at "ev"
  cases hh : decide (x ∈ O) with
  | true =>
    rw [hh] at hcond
    apply el_t (hc := hcond)
    · rfl
    · exact ev_var rfl rfl
    · rfl
  | false =>
    rw [hh] at hcond
    exact el_f rfl hcond
theorem due_ok (n : Nat) (c : Nat) (O A : List Int) (lO : O.length ≤ 1000) (lA : A.length ≤ 1000) : callI dat.pg (n + 2) 65 [.int (c : Int), .tup [td O, td A]] = .ok (.sh (.str (dueS c O A))) := by
  have hO : callI dat.pg (n + 1) 80 [.int (c : Int), td O] = _ := isn_ok n (c : Int) O (by omega)
  have hA : callI dat.pg (n + 1) 80 [.int (c : Int), td A] = _ := isn_ok n (c : Int) A (by omega)
  have fl := flt_in (n + 1) (some (.sh (.int (c : Int)))) (some (.sh (.tup [td O, td A]))) O A
  have c8 : cmpop .NotEq (.lst ((A.filter fun x => decide (x ∈ O)).map Dv.int)) (.lst []) = .ok (!decide ((A.filter fun x => decide (x ∈ O)) = [])) := c_ne_ints _ []
  have la := len_intT A
  have e0 : decide ((A.length : Int) = 0) = decide (A = []) := by
    cases A with
    | nil => rfl
    | cons a r => rw [decide_eq_false (by rw [List.length_cons]; omega), decide_eq_false (by simp)]
  refine call_ret (d := r_l_due.d) rfl rfl (?_ : ∃ e1, execB (clI dat.pg (n + 1)) b_l_due [some (.sh (.int (c : Int))), some (.sh (.tup [td O, td A])), none, none, none] = .rt _ e1)
  unfold b_l_due dueS
  by_cases h1 : (!isSetB (c : Int) O || !isSetB (c : Int) A) = true
  · rw [if_pos h1]
    apply Exists.intro
    refine nx_asg (tg := .tp [2, 3]) (e1 := [some (.sh (.int (c : Int))), some (.sh (.tup [td O, td A])), some (.sh (td O)), some (.sh (td A)), none]) (ev_var rfl rfl) rfl ?_
    apply nx_iteT
    · walk_at "ev"
    · exact h1
    apply then_rt
    · exact rt_ret ev_cst
    · rfl
  · rw [if_neg h1]
    by_cases h2 : (decide (A = []) || !decide ((A.filter fun x => decide (x ∈ O)) = [])) = true
    · rw [if_pos h2]
      apply Exists.intro
      refine nx_asg (tg := .tp [2, 3]) (e1 := [some (.sh (.int (c : Int))), some (.sh (.tup [td O, td A])), some (.sh (td O)), some (.sh (td A)), none]) (ev_var rfl rfl) rfl ?_
      apply nx_iteF
      · walk_at "ev"
      · simpa using h1
      apply then_nil
      apply nx_iteT
      · exact ev_orD (by walk_at "ev") fun _ => ev_cmp fl (ev_lst es_nil) c8
      · rw [e0]; exact h2
      apply then_rt
      · exact rt_ret ev_cst
      · rfl
    · rw [if_neg h2]
      apply Exists.intro
      refine nx_asg (tg := .tp [2, 3]) (e1 := [some (.sh (.int (c : Int))), some (.sh (.tup [td O, td A])), some (.sh (td O)), some (.sh (td A)), none]) (ev_var rfl rfl) rfl ?_
      apply nx_iteF
      · walk_at "ev"
      · simpa using h1
      apply then_nil
      apply nx_iteF
      · exact ev_orD (by walk_at "ev") fun _ => ev_cmp fl (ev_lst es_nil) c8
      · rw [e0]; simpa using h2
      apply then_nil
      exact rt_ret ev_cst
/-! ### what is refused -/
theorem quest_bad (n : Nat) (c : Nat) (P R : List (Int × Int)) (O A : List Int) (lO : O.length ≤ 1000) (lA : A.length ≤ 1000) :
    (dueS c O A = "NoName" → callI dat.pg (n + 3) 70 [drQ (c : Int) P R, .tup [td O, td A]] = .ex 11 none) ∧ (dueS c O A = "NoSets" → callI dat.pg (n + 3) 70 [drQ (c : Int) P R, .tup [td O, td A]] = .ex 12 none) := by
  have kO := look_set n (c : Int) (.tup (P.map tp)) (.tup (R.map tp)) O (by omega)
  have kA := look_set n (c : Int) (.tup (P.map tp)) (.tup (R.map tp)) A (by omega)
  have fl := flt_in (n + 2) (some (.sh (drQ (c : Int) P R))) (some (.sh (.tup [td O, td A]))) O A
  have c8 : cmpop .NotEq (.lst ((A.filter fun x => decide (x ∈ O)).map Dv.int)) (.lst []) = .ok (!decide ((A.filter fun x => decide (x ∈ O)) = [])) := c_ne_ints _ []
  have c1 : cmpop .Eq (td A) (.tup []) = .ok (decide (A = [])) := c_eq_td A []
  have s12 : dat.pg.sub 12 12 = some true := by kernel_rfl
  have n1 : ("NoName" : PySem.Str) ≠ "NoSets" := by decide +kernel
  have n2 : ("" : PySem.Str) ≠ "NoSets" := by decide +kernel
  have n3 : ("NoSets" : PySem.Str) ≠ "NoName" := by decide +kernel
  have n4 : ("" : PySem.Str) ≠ "NoName" := by decide +kernel
  refine ⟨fun h => ?_, fun h => ?_⟩
  · unfold dueS at h
    split at h
    · rename_i h1
      refine call_ex (d := r_look_at_question.d) rfl rfl (?_ : ∃ e1, execB (clI dat.pg (n + 2)) b_look_at_question [some (.sh (drQ (c : Int) P R)), some (.sh (.tup [td O, td A])), none, none, none] = .ex 11 none e1)
      unfold b_look_at_question
      cases hO : isSetB (c : Int) O with
      | false =>
        rw [hO, if_neg Bool.false_ne_true] at kO
        apply Exists.intro
        refine nx_asg (tg := .tp [2, 3]) (e1 := [some (.sh (drQ (c : Int) P R)), some (.sh (.tup [td O, td A])), some (.sh (td O)), some (.sh (td A)), none]) (ev_var rfl rfl) rfl ?_
        exact rt_exprX (fz := []) (ev_callX (es_cons (ev_var rfl rfl) rfl (es_cons (ev_var rfl rfl) rfl es_nil)) kO)
      | true =>
        rw [hO, if_pos rfl] at kO
        rw [hO] at h1
        cases hA : isSetB (c : Int) A with
        | true => rw [hA] at h1; cases h1
        | false =>
          rw [hA, if_neg Bool.false_ne_true] at kA
          apply Exists.intro
          refine nx_asg (tg := .tp [2, 3]) (e1 := [some (.sh (drQ (c : Int) P R)), some (.sh (.tup [td O, td A])), some (.sh (td O)), some (.sh (td A)), none]) (ev_var rfl rfl) rfl ?_
          refine nx_expr (fz := []) (ev_callI (es_cons (ev_var rfl rfl) rfl (es_cons (ev_var rfl rfl) rfl es_nil)) kO) ?_
          exact rt_exprX (fz := []) (ev_callX (es_cons (ev_var rfl rfl) rfl (es_cons (ev_var rfl rfl) rfl es_nil)) kA)
    · split at h
      · exact absurd h n3
      · exact absurd h n4
  · unfold dueS at h
    split at h
    · exact absurd h n1
    · rename_i h1
      split at h
      · rename_i h2
        rw [Bool.or_eq_true] at h1
        have hO : isSetB (c : Int) O = true := by
          cases z : isSetB (c : Int) O with
          | true => rfl
          | false => exact absurd (.inl (by rw [z]; rfl)) h1
        have hA : isSetB (c : Int) A = true := by
          cases z : isSetB (c : Int) A with
          | true => rfl
          | false => exact absurd (.inr (by rw [z]; rfl)) h1
        rw [hO, if_pos rfl] at kO
        rw [hA, if_pos rfl] at kA
        refine call_ex (d := r_look_at_question.d) rfl rfl (?_ : ∃ e1, execB (clI dat.pg (n + 2)) b_look_at_question [some (.sh (drQ (c : Int) P R)), some (.sh (.tup [td O, td A])), none, none, none] = .ex 12 none e1)
        unfold b_look_at_question
        apply Exists.intro
        refine nx_asg (tg := .tp [2, 3]) (e1 := [some (.sh (drQ (c : Int) P R)), some (.sh (.tup [td O, td A])), some (.sh (td O)), some (.sh (td A)), none]) (ev_var rfl rfl) rfl ?_
        refine nx_expr (fz := []) (ev_callI (es_cons (ev_var rfl rfl) rfl (es_cons (ev_var rfl rfl) rfl es_nil)) kO) ?_
        refine nx_expr (fz := []) (ev_callI (es_cons (ev_var rfl rfl) rfl (es_cons (ev_var rfl rfl) rfl es_nil)) kA) ?_
        apply nx_iteT
        · exact ev_orD (by walk_at "ev") fun _ => ev_cmp fl (ev_lst es_nil) c8
        · exact h2
        apply then_ex
        · exact ex_rai s12
        · rfl
      · exact absurd h n2
theorem wanted_bad (n : Nat) (c : Nat) (P R : List (Int × Int)) (O A : List Int) {C : Nat} (h : callI dat.pg (n + 3) 70 [drQ (c : Int) P R, .tup [td O, td A]] = .ex C none) : callI dat.pg (n + 4) 73 [drQ (c : Int) P R, .tup [td O, td A]] = .ex C none := by
  refine call_ex (d := r_wanted.d) rfl rfl (?_ : ∃ e1, execB (clI dat.pg (n + 3)) b_wanted [some (.sh (drQ (c : Int) P R)), some (.sh (.tup [td O, td A])), none, none, none] = .ex C none e1)
  unfold b_wanted
  exact ⟨_, rt_exprX (fz := []) (ev_callX (es_cons (ev_var rfl rfl) rfl (es_cons (ev_var rfl rfl) rfl es_nil)) h)⟩
/-! ### spoilt -/
theorem cut_le (A : List Int) (lo hi : Option Int) : (cutL A lo hi).length ≤ A.length := by
  unfold cutL
  rw [List.length_take, List.length_drop]
  omega
theorem sl_tdA (A : List Int) (lo hi : Option Int) : slice (td A) lo hi = .ok (.sh (td (cutL A lo hi))) := by
  show Rs.ok (Sv.sh (.tup (cutL (A.map Dv.int) lo hi))) = _
  rw [cutL_map]
theorem add_td (A B : List Int) (hA : A.length ≤ 1000) (hB : B.length ≤ 1000) : binop .Add (td A) (td B) = .ok (.sh (td (A ++ B))) := by
  unfold td
  rw [List.map_append]
  exact b_addt (by rw [List.length_map, List.length_map]; unfold LIM; omega)
theorem rng_rev (c : Nat) : (rngI 0 (c : Int)).reverse = (nums (List.range c)).reverse.map Dv.int := by
  rw [rng_natR, List.map_reverse, List.map_map]
  rfl
theorem ev_revR {cl : Cl} {e : Env} {a : Ex} {c : Nat} (h : evalE cl a e = .ok (.sh (.int (c : Int)))) (hn : c ≤ LIM) : evalE cl (.revR a) e = .ok (.sh (td (nums (List.range c)).reverse)) := by
  have hp : rOk (c : Int) ∧ ((c : Int)).toNat ≤ LIM := by
    unfold rOk LIM at *
    omega
  rw [evalE, h, Rs.bind_ok]
  dsimp only [Sv.toD]
  rw [if_pos hp, rng_rev]

theorem len_sort (l : List Int) : (l.mergeSort leZ).length = l.length := List.length_mergeSort l
abbrev spE (q z c : Dv) (w : Int) (O A : List Int) : Env := [some (.sh q), some (.sh z), some (.sh c), some (.sh (td O)), some (.sh (td A)), some (.sh (.int w))]
theorem sp_step {cl : Cl} {q z c : Dv} {w k : Int} {ex : Ex} {b : Blk} {O A : List Int} (L L' : Nat) (hL : L ≤ L') (j : Nat) (hj : j = 3 ∨ j = 4) (hO : O.length ≤ L) (hA : A.length ≤ L)
    (h : ∃ X : List Int, X.length ≤ L' ∧ evalE cl ex (spE q z c w O A) = .ok (.sh (td X))) :
    ∃ O' A' : List Int, O'.length ≤ L' ∧ A'.length ≤ L' ∧ execB cl (.cons (.ite [] (.cmp .Eq (.var 5) (.cst (.int k))) (.cons (.asg [] (.nm j false) ex) .nil) .nil) b) (spE q z c w O A) = execB cl b (spE q z c w O' A') := by
  obtain ⟨X, hX, hv⟩ := h
  by_cases e : w = k
  · rcases hj with rfl | rfl
    · refine ⟨X, A, hX, by omega, ?_⟩
      apply nx_iteT (k := decide (w = k))
      · walk_at "ev"
      · exact decide_eq_true e
      exact then_nx (nx_asg hv rfl blk_nil) rfl
    · refine ⟨O, X, by omega, hX, ?_⟩
      apply nx_iteT (k := decide (w = k))
      · walk_at "ev"
      · exact decide_eq_true e
      exact then_nx (nx_asg hv rfl blk_nil) rfl
  · refine ⟨O, A, by omega, by omega, ?_⟩
    apply nx_iteF (k := decide (w = k))
    · walk_at "ev"
    · exact decide_eq_false e
    exact then_nil rfl
theorem spoilt_ok (n : Nat) (z : Int) (c : Nat) (hc : c ≤ 6) (O A : List Int) (lO : O.length ≤ 6) (lA : A.length ≤ 6) : ∃ O' A' : List Int, O'.length ≤ 1000 ∧ A'.length ≤ 1000 ∧ callI dat.pg (n + 1) 81 [.tup [td O, td A], .int z, .int (c : Int)] = .ok (.sh (.tup [td O', td A'])) := by
  obtain ⟨O1, A1, g1, g2, s1⟩ := sp_step (cl := clI dat.pg n) (q := .tup [td O, td A]) (z := .int (z / 7)) (c := .int (c : Int)) (w := z % 7) (k := 0) (ex := .tup .nil) (b := (.cons (b_l_spoilt.at 4) (.cons (b_l_spoilt.at 5) (.cons (b_l_spoilt.at 6) (.cons (b_l_spoilt.at 7) (.cons (b_l_spoilt.at 8) (.cons (b_l_spoilt.at 9) (.cons (b_l_spoilt.at 10) .nil)))))))) (O := O) (A := A) 6 6 (by omega) 4 (.inr rfl) lO lA ⟨[], by simp, ev_tup es_nil⟩
  obtain ⟨O2, A2, g3, g4, s2⟩ := sp_step (cl := clI dat.pg n) (q := .tup [td O, td A]) (z := .int (z / 7)) (c := .int (c : Int)) (w := z % 7) (k := 1) (ex := .bc .tuple (.cons (.bc .sorted (.cons (.bin .Add (.bc .list (.cons (.var 3) .nil)) (.bc .list (.cons (.slc (.var 4) .non (.som (.cst (.int 1)))) .nil))) .nil)) .nil)) (b := (.cons (b_l_spoilt.at 5) (.cons (b_l_spoilt.at 6) (.cons (b_l_spoilt.at 7) (.cons (b_l_spoilt.at 8) (.cons (b_l_spoilt.at 9) (.cons (b_l_spoilt.at 10) .nil))))))) (O := O1) (A := A1) 6 12 (by omega) 3 (.inl rfl) g1 g2 (by
    have lc := cut_le A1 none (some 1)
    refine ⟨(O1 ++ cutL A1 none (some 1)).mergeSort leZ, by rw [len_sort, List.length_append]; omega, ?_⟩
    have sl := sl_tdA A1 none (some 1)
    have l1 : bcall .list [td O1] = .ok (.l1 (O1.map Dv.int)) := rfl
    have l2 : bcall .list [td (cutL A1 none (some 1))] = .ok (.l1 ((cutL A1 none (some 1)).map Dv.int)) := rfl
    have ad : binop .Add (.lst (O1.map Dv.int)) (.lst ((cutL A1 none (some 1)).map Dv.int)) = .ok (.l1 ((O1 ++ cutL A1 none (some 1)).map Dv.int)) := by
      rw [List.map_append]
      exact b_addl (by rw [List.length_map, List.length_map]; unfold LIM; omega)
    walk_at "ev")
  obtain ⟨O3, A3, g5, g6, s3⟩ := sp_step (cl := clI dat.pg n) (q := .tup [td O, td A]) (z := .int (z / 7)) (c := .int (c : Int)) (w := z % 7) (k := 2) (ex := .bin .Add (.var 3) (.tup (.cons (.bin .Add (.var 2) (.bin .Mod (.var 1) (.cst (.int 3)))) .nil))) (b := (.cons (b_l_spoilt.at 6) (.cons (b_l_spoilt.at 7) (.cons (b_l_spoilt.at 8) (.cons (b_l_spoilt.at 9) (.cons (b_l_spoilt.at 10) .nil)))))) (O := O2) (A := A2) 12 13 (by omega) 3 (.inl rfl) g3 g4 (by
    refine ⟨O2 ++ [(c : Int) + z / 7 % 3], by rw [List.length_append, List.length_singleton]; omega, ?_⟩
    have ad : binop .Add (td O2) (.tup [.int ((c : Int) + z / 7 % 3)]) = .ok (.sh (td (O2 ++ [(c : Int) + z / 7 % 3]))) := add_td O2 [(c : Int) + z / 7 % 3] (by omega) (by simp)
    walk_at "ev")
  obtain ⟨O4, A4, g7, g8, s4⟩ := sp_step (cl := clI dat.pg n) (q := .tup [td O, td A]) (z := .int (z / 7)) (c := .int (c : Int)) (w := z % 7) (k := 3) (ex := .bin .Add (.tup (.cons (.neg (.cst (.int 1))) .nil)) (.var 4)) (b := (.cons (b_l_spoilt.at 7) (.cons (b_l_spoilt.at 8) (.cons (b_l_spoilt.at 9) (.cons (b_l_spoilt.at 10) .nil))))) (O := O3) (A := A3) 13 14 (by omega) 4 (.inr rfl) g5 g6 (by
    refine ⟨[-1] ++ A3, by rw [List.length_append, List.length_singleton]; omega, ?_⟩
    have ad : binop .Add (.tup [.int (-1)]) (td A3) = .ok (.sh (td ([-1] ++ A3))) := add_td [-1] A3 (by simp) (by omega)
    walk_at "ev")
  obtain ⟨O5, A5, g9, g10, s5⟩ := sp_step (cl := clI dat.pg n) (q := .tup [td O, td A]) (z := .int (z / 7)) (c := .int (c : Int)) (w := z % 7) (k := 4) (ex := .bin .Add (.var 4) (.slc (.var 4) (.som (.neg (.cst (.int 1)))) .non)) (b := (.cons (b_l_spoilt.at 8) (.cons (b_l_spoilt.at 9) (.cons (b_l_spoilt.at 10) .nil)))) (O := O4) (A := A4) 14 28 (by omega) 4 (.inr rfl) g7 g8 (by
    have lc := cut_le A4 (some (-1)) none
    refine ⟨A4 ++ cutL A4 (some (-1)) none, by rw [List.length_append]; omega, ?_⟩
    have sl := sl_tdA A4 (some (-1)) none
    have ad := add_td A4 (cutL A4 (some (-1)) none) (by omega) (by omega)
    walk_at "ev")
  obtain ⟨O6, A6, g11, g12, s6⟩ := sp_step (cl := clI dat.pg n) (q := .tup [td O, td A]) (z := .int (z / 7)) (c := .int (c : Int)) (w := z % 7) (k := 5) (ex := .revR (.var 2)) (b := (.cons (b_l_spoilt.at 9) (.cons (b_l_spoilt.at 10) .nil))) (O := O5) (A := A5) 28 28 (by omega) 3 (.inl rfl) g9 g10
    ⟨(nums (List.range c)).reverse, by rw [List.length_reverse]; unfold nums; rw [List.length_map, List.length_range]; omega, ev_revR (ev_var rfl rfl) (by unfold LIM; omega)⟩
  obtain ⟨O7, A7, g13, g14, s7⟩ := sp_step (cl := clI dat.pg n) (q := .tup [td O, td A]) (z := .int (z / 7)) (c := .int (c : Int)) (w := z % 7) (k := 6) (ex := .rngT (.cst (.int 0)) (.var 2)) (b := (.cons (b_l_spoilt.at 10) .nil)) (O := O6) (A := A6) 28 28 (by omega) 3 (.inl rfl) g11 g12
    ⟨nums (List.range c), by unfold nums; rw [List.length_map, List.length_range]; omega, ev_rngT (ev_var rfl rfl) (by unfold LIM; omega)⟩
  refine ⟨O7, A7, by omega, by omega, call_ret (d := r_l_spoilt.d) rfl rfl (?_ : ∃ e1, execB (clI dat.pg n) b_l_spoilt [some (.sh (.tup [td O, td A])), some (.sh (.int z)), some (.sh (.int (c : Int))), none, none, none] = .rt _ e1)⟩
  dsimp only [b_l_spoilt, Blk.at, spE] at s1 s2 s3 s4 s5 s6 s7
  unfold b_l_spoilt
  apply Exists.intro
  refine nx_asg (tg := .tp [3, 4]) (e1 := [some (.sh (.tup [td O, td A])), some (.sh (.int z)), some (.sh (.int (c : Int))), some (.sh (td O)), some (.sh (td A)), none]) (ev_var rfl rfl) rfl ?_
  walk_at "stp"
  walk_at "stp"
  refine s1.trans (s2.trans (s3.trans (s4.trans (s5.trans (s6.trans (s7.trans ?_))))))
  apply rt_ret
  walk_at "nrm"
  walk_at "ev"
/-! ### a told value of new lists -/
theorem nx_lndO {cl : Cl} {e e1 : Env} {i : Nat} {a : Ex} {C m j : Nat} {q : Qs} {d : Kx} {b : Blk} {x : Dv} {R : Rt} (hs : (shE e && (slot e i).isSome) = true) (ha : evalE cl a (noLE e) = .ok (.sh x)) (hq : runQ cl i (some x) q (e.set i none) = .nx e1) (hk : okK (callK cl.kf) true d (fun k => if k = i then some x else none) = true) (hr : execB cl b (wipeE (tgK d) e1) = R) : execB cl (.cons (.lnd i a C m j q d) b) e = R := by
  rw [execB, execS, if_pos hs, ha]
  dsimp only
  rw [hq]
  dsimp only
  rw [if_pos hk]
  exact hr
theorem rt_lndX {cl : Cl} {e e1 : Env} {i : Nat} {a : Ex} {C D m j : Nat} {q : Qs} {d : Kx} {b : Blk} {v : Sv} (hs : (shE e && (slot e i).isSome) = true) (ha : evalE cl a (noLE e) = .ex D none) (hc : cl.sub D C = some true) (hq : runQ cl i none q ((e.set m none).set j (some (.sh (.exc D none)))) = .rt v e1) : execB cl (.cons (.lnd i a C m j q d) b) e = .rt v e1 := by
  rw [execB, execS, if_pos hs, ha]
  dsimp only
  rw [hc]
  dsimp only
  rw [hq]
  rfl
theorem q_retT {cl : Cl} {i : Nat} {o : Option Dv} {c a : Ex} {q : Qs} {e : Env} {d : Dv} (hc : evalE cl c (lndE i o e) = .ok (.sh (.bl true))) (ha : evalE cl a e = .ok (.sh d)) : runQ cl i o (.ret c a q) e = .rt (.sh d) e := by
  rw [runQ, evalT, hc]
  dsimp only [Rs.bind, Sv.toD]
  rw [ha]
theorem q_retF {cl : Cl} {i : Nat} {o : Option Dv} {c a : Ex} {q : Qs} {e : Env} {R : Rt} (hc : evalE cl c (lndE i o e) = .ok (.sh (.bl false))) (hq : runQ cl i o q e = R) : runQ cl i o (.ret c a q) e = R := by
  rw [runQ, evalT, hc]
  dsimp only [Rs.bind, Sv.toD]
  exact hq
theorem q_asg {cl : Cl} {i j : Nat} {o : Option Dv} {a : Ex} {q : Qs} {e : Env} {d : Dv} {R : Rt} (ha : evalE cl a e = .ok (.sh d)) (hq : runQ cl i o q (e.set j (some (.sh d))) = R) : runQ cl i o (.asg j a q) e = R := by
  rw [runQ, ha]
  exact hq
theorem q_nil {cl : Cl} {i : Nat} {o : Option Dv} {e : Env} : runQ cl i o .nil e = .nx e := by rw [runQ]

theorem ev_isa {cl : Cl} {a : Ex} {e : Env} {C c : Nat} {t : Option Int} {k : Bool} (ha : evalE cl a e = .ok (.sh (.exc C t))) (h : cl.sub C c = some k) : evalE cl (.isa a c) e = .ok (.sh (.bl k)) := by
  rw [evalE, ha]
  dsimp only [Rs.bind, Sv.toD]
  rw [h]
  rfl
theorem ev_isv {cl : Cl} {a : Ex} {e : Env} {C : Nat} {t : Option Int} {k : Bool} (ha : evalE cl a e = .ok (.sh (.exc C t))) (h : cl.sub C C = some k) : evalE cl (.isv a) e = .ok (.sh (.bl true)) := by
  rw [evalE, ha]
  dsimp only [Rs.bind, Sv.toD]
  rw [h]
  rfl
theorem ev_lix1 {cl : Cl} {a b : Ex} {e : Env} {sv : Sv} {xs : List Dv} {y : Sv} {r : Sv} (ha : evalE cl a e = .ok sv) (h2 : sv.toD = .lst xs) (hb : evalE cl b e = .ok y) (h : lixD (.lst xs) [y.toD] = .ok r) : evalE cl (.lix a (.cons b .nil)) e = .ok r := by
  rw [evalE, ha]
  dsimp only [Rs.bind]
  rw [h2]
  dsimp only
  rw [bs_cons hb bs_nil]
  exact h
def bI (b : Bool) : Int := if b then 1 else 0
def bs11 : List Bool := [false, false, false, false, false, false, false, false, true, false, false, false, false, false, false, false, false, false, false, false]
theorem lx11 : lixD (.lst (bs11.map Dv.bl)) [.bl true] = .ok (.sh (.int 8)) := by kernel_rfl
theorem sm11 : bcall .sum [.lst (bs11.map fun b => Dv.int (bI b))] = .ok (.sh (.int 1)) := by kernel_rfl
theorem class11 (n : Nat) : callI dat.pg (n + 1) 79 [.exc 11 none] = .ok (.sh (.str "NoName")) := by
  have h18 : (clI dat.pg n).sub 11 18 = some false := by kernel_rfl
  have h25 : (clI dat.pg n).sub 11 25 = some false := by kernel_rfl
  have h22 : (clI dat.pg n).sub 11 22 = some false := by kernel_rfl
  have h10 : (clI dat.pg n).sub 11 10 = some false := by kernel_rfl
  have h8 : (clI dat.pg n).sub 11 8 = some false := by kernel_rfl
  have h20 : (clI dat.pg n).sub 11 20 = some false := by kernel_rfl
  have h24 : (clI dat.pg n).sub 11 24 = some false := by kernel_rfl
  have h7 : (clI dat.pg n).sub 11 7 = some false := by kernel_rfl
  have h11 : (clI dat.pg n).sub 11 11 = some true := by kernel_rfl
  have h19 : (clI dat.pg n).sub 11 19 = some false := by kernel_rfl
  have h23 : (clI dat.pg n).sub 11 23 = some false := by kernel_rfl
  have h16 : (clI dat.pg n).sub 11 16 = some false := by kernel_rfl
  have h17 : (clI dat.pg n).sub 11 17 = some false := by kernel_rfl
  have h12 : (clI dat.pg n).sub 11 12 = some false := by kernel_rfl
  have h15 : (clI dat.pg n).sub 11 15 = some false := by kernel_rfl
  have h26 : (clI dat.pg n).sub 11 26 = some false := by kernel_rfl
  have h21 : (clI dat.pg n).sub 11 21 = some false := by kernel_rfl
  have h9 : (clI dat.pg n).sub 11 9 = some false := by kernel_rfl
  have h14 : (clI dat.pg n).sub 11 14 = some false := by kernel_rfl
  have h13 : (clI dat.pg n).sub 11 13 = some false := by kernel_rfl
  have h6 : (clI dat.pg n).sub 11 6 = some true := by kernel_rfl
  have comp : evalE (clI dat.pg n) (.comp [2] (.nm 2 false) (.seq (.var 1)) .non (.bc .int (.cons (.var 2) .nil))) [some (.sh (.exc 11 none)), some (.sh (.lst (bs11.map Dv.bl))), none, none] = .ok (.l1 (bs11.map fun b => Dv.int (bI b))) :=
    ev_comp (ds := bs11.map Dv.bl) (s_seq (ev_var rfl rfl) rfl rfl) (comp_all Dv.bl (fun b => .int (bI b)) bs11 fun b _ => el_t rfl ec_non (ev_bc1 (ev_var rfl rfl) rfl) rfl)
  have cond : evalE (clI dat.pg n) (.or (.not (.isa (.var 0) 6)) (.or (.not (.isv (.var 0))) (.cmp .NotEq (.bc .sum (.cons (.comp [2] (.nm 2 false) (.seq (.var 1)) .non (.bc .int (.cons (.var 2) .nil))) .nil)) (.cst (.int 1))))) [some (.sh (.exc 11 none)), some (.sh (.lst (bs11.map Dv.bl))), none, none] = .ok (.sh (.bl (!true || (!true || !decide ((1 : Int) = 1))))) :=
    ev_orD (ev_not (ev_isa (ev_var rfl rfl) h6)) fun _ => ev_orD (ev_not (ev_isv (ev_var rfl rfl) h11)) fun _ => ev_cmp (ev_bc (bs_cons comp bs_nil) sm11) ev_cst (c_ne 1 1)
  refine call_ret (d := r_l_class.d) rfl rfl (?_ : ∃ e1, execB (clI dat.pg n) b_l_class [some (.sh (.exc 11 none)), none, none, none] = .rt _ e1)
  unfold b_l_class
  apply Exists.intro
  refine nx_asg (tg := .nm 1 false) (e1 := [some (.sh (.exc 11 none)), some (.sh (.lst [.bl false, .bl false, .bl false])), none, none]) (ev_lst (es_cons (ev_isa (ev_var rfl rfl) h18) rfl (es_cons (ev_isa (ev_var rfl rfl) h25) rfl (es_cons (ev_isa (ev_var rfl rfl) h22) rfl (es_nil))))) rfl ?_
  refine nx_asg (tg := .nm 1 false) (e1 := [some (.sh (.exc 11 none)), some (.sh (.lst [.bl false, .bl false, .bl false, .bl false, .bl false, .bl false])), none, none]) (ev_bin (ev_var rfl rfl) (ev_lst (es_cons (ev_isa (ev_var rfl rfl) h10) rfl (es_cons (ev_isa (ev_var rfl rfl) h8) rfl (es_cons (ev_isa (ev_var rfl rfl) h20) rfl (es_nil))))) (b_addl (by unfold LIM; simp))) rfl ?_
  refine nx_asg (tg := .nm 1 false) (e1 := [some (.sh (.exc 11 none)), some (.sh (.lst [.bl false, .bl false, .bl false, .bl false, .bl false, .bl false, .bl false, .bl false, .bl true])), none, none]) (ev_bin (ev_var rfl rfl) (ev_lst (es_cons (ev_isa (ev_var rfl rfl) h24) rfl (es_cons (ev_isa (ev_var rfl rfl) h7) rfl (es_cons (ev_isa (ev_var rfl rfl) h11) rfl (es_nil))))) (b_addl (by unfold LIM; simp))) rfl ?_
  refine nx_asg (tg := .nm 1 false) (e1 := [some (.sh (.exc 11 none)), some (.sh (.lst [.bl false, .bl false, .bl false, .bl false, .bl false, .bl false, .bl false, .bl false, .bl true, .bl false, .bl false, .bl false])), none, none]) (ev_bin (ev_var rfl rfl) (ev_lst (es_cons (ev_isa (ev_var rfl rfl) h19) rfl (es_cons (ev_isa (ev_var rfl rfl) h23) rfl (es_cons (ev_isa (ev_var rfl rfl) h16) rfl (es_nil))))) (b_addl (by unfold LIM; simp))) rfl ?_
  refine nx_asg (tg := .nm 1 false) (e1 := [some (.sh (.exc 11 none)), some (.sh (.lst [.bl false, .bl false, .bl false, .bl false, .bl false, .bl false, .bl false, .bl false, .bl true, .bl false, .bl false, .bl false, .bl false, .bl false, .bl false])), none, none]) (ev_bin (ev_var rfl rfl) (ev_lst (es_cons (ev_isa (ev_var rfl rfl) h17) rfl (es_cons (ev_isa (ev_var rfl rfl) h12) rfl (es_cons (ev_isa (ev_var rfl rfl) h15) rfl (es_nil))))) (b_addl (by unfold LIM; simp))) rfl ?_
  refine nx_asg (tg := .nm 1 false) (e1 := [some (.sh (.exc 11 none)), some (.sh (.lst [.bl false, .bl false, .bl false, .bl false, .bl false, .bl false, .bl false, .bl false, .bl true, .bl false, .bl false, .bl false, .bl false, .bl false, .bl false, .bl false, .bl false, .bl false])), none, none]) (ev_bin (ev_var rfl rfl) (ev_lst (es_cons (ev_isa (ev_var rfl rfl) h26) rfl (es_cons (ev_isa (ev_var rfl rfl) h21) rfl (es_cons (ev_isa (ev_var rfl rfl) h9) rfl (es_nil))))) (b_addl (by unfold LIM; simp))) rfl ?_
  refine nx_asg (tg := .nm 1 false) (e1 := [some (.sh (.exc 11 none)), some (.sh (.lst (bs11.map Dv.bl))), none, none]) (ev_bin (ev_var rfl rfl) (ev_lst (es_cons (ev_isa (ev_var rfl rfl) h14) rfl (es_cons (ev_isa (ev_var rfl rfl) h13) rfl (es_nil)))) (b_addl (by unfold LIM; simp))) rfl ?_
  refine nx_iteF cond rfl (then_nil ?_)
  refine nx_asg (tg := .nm 3 false) (e1 := [some (.sh (.exc 11 none)), some (.sh (.lst (bs11.map Dv.bl))), none, some (.sh (.lst [.str "BadPaper", .str "BadStep", .str "NoAnswer", .str "NoBow", .str "NoCount", .str "NoDoor", .str "NoFormula", .str "NoFraction", .str "NoName"]))]) (ev_lst (es_cons ev_cst rfl (es_cons ev_cst rfl (es_cons ev_cst rfl (es_cons ev_cst rfl (es_cons ev_cst rfl (es_cons ev_cst rfl (es_cons ev_cst rfl (es_cons ev_cst rfl (es_cons ev_cst rfl (es_nil))))))))))) rfl ?_
  refine nx_asg (tg := .nm 3 false) (e1 := [some (.sh (.exc 11 none)), some (.sh (.lst (bs11.map Dv.bl))), none, some (.sh (.lst [.str "BadPaper", .str "BadStep", .str "NoAnswer", .str "NoBow", .str "NoCount", .str "NoDoor", .str "NoFormula", .str "NoFraction", .str "NoName", .str "NoNest", .str "NoQuestion", .str "NoRoad", .str "NoRule", .str "NoSets", .str "NoShare", .str "NoText", .str "NoThinning", .str "NoTie"]))]) (ev_bin (ev_var rfl rfl) (ev_lst (es_cons ev_cst rfl (es_cons ev_cst rfl (es_cons ev_cst rfl (es_cons ev_cst rfl (es_cons ev_cst rfl (es_cons ev_cst rfl (es_cons ev_cst rfl (es_cons ev_cst rfl (es_cons ev_cst rfl (es_nil))))))))))) (b_addl (by unfold LIM; simp))) rfl ?_
  exact rt_ret (ev_idx (ev_bin (ev_var rfl rfl) (ev_lst (es_cons ev_cst rfl (es_cons ev_cst rfl (es_nil)))) (b_addl (by unfold LIM; simp))) (ev_lix1 (ev_var rfl rfl) rfl ev_cst lx11) rfl)
def bs12 : List Bool := [false, false, false, false, false, false, false, false, false, false, false, false, false, true, false, false, false, false, false, false]
theorem lx12 : lixD (.lst (bs12.map Dv.bl)) [.bl true] = .ok (.sh (.int 13)) := by kernel_rfl
theorem sm12 : bcall .sum [.lst (bs12.map fun b => Dv.int (bI b))] = .ok (.sh (.int 1)) := by kernel_rfl
theorem class12 (n : Nat) : callI dat.pg (n + 1) 79 [.exc 12 none] = .ok (.sh (.str "NoSets")) := by
  have h18 : (clI dat.pg n).sub 12 18 = some false := by kernel_rfl
  have h25 : (clI dat.pg n).sub 12 25 = some false := by kernel_rfl
  have h22 : (clI dat.pg n).sub 12 22 = some false := by kernel_rfl
  have h10 : (clI dat.pg n).sub 12 10 = some false := by kernel_rfl
  have h8 : (clI dat.pg n).sub 12 8 = some false := by kernel_rfl
  have h20 : (clI dat.pg n).sub 12 20 = some false := by kernel_rfl
  have h24 : (clI dat.pg n).sub 12 24 = some false := by kernel_rfl
  have h7 : (clI dat.pg n).sub 12 7 = some false := by kernel_rfl
  have h11 : (clI dat.pg n).sub 12 11 = some false := by kernel_rfl
  have h19 : (clI dat.pg n).sub 12 19 = some false := by kernel_rfl
  have h23 : (clI dat.pg n).sub 12 23 = some false := by kernel_rfl
  have h16 : (clI dat.pg n).sub 12 16 = some false := by kernel_rfl
  have h17 : (clI dat.pg n).sub 12 17 = some false := by kernel_rfl
  have h12 : (clI dat.pg n).sub 12 12 = some true := by kernel_rfl
  have h15 : (clI dat.pg n).sub 12 15 = some false := by kernel_rfl
  have h26 : (clI dat.pg n).sub 12 26 = some false := by kernel_rfl
  have h21 : (clI dat.pg n).sub 12 21 = some false := by kernel_rfl
  have h9 : (clI dat.pg n).sub 12 9 = some false := by kernel_rfl
  have h14 : (clI dat.pg n).sub 12 14 = some false := by kernel_rfl
  have h13 : (clI dat.pg n).sub 12 13 = some false := by kernel_rfl
  have h6 : (clI dat.pg n).sub 12 6 = some true := by kernel_rfl
  have comp : evalE (clI dat.pg n) (.comp [2] (.nm 2 false) (.seq (.var 1)) .non (.bc .int (.cons (.var 2) .nil))) [some (.sh (.exc 12 none)), some (.sh (.lst (bs12.map Dv.bl))), none, none] = .ok (.l1 (bs12.map fun b => Dv.int (bI b))) :=
    ev_comp (ds := bs12.map Dv.bl) (s_seq (ev_var rfl rfl) rfl rfl) (comp_all Dv.bl (fun b => .int (bI b)) bs12 fun b _ => el_t rfl ec_non (ev_bc1 (ev_var rfl rfl) rfl) rfl)
  have cond : evalE (clI dat.pg n) (.or (.not (.isa (.var 0) 6)) (.or (.not (.isv (.var 0))) (.cmp .NotEq (.bc .sum (.cons (.comp [2] (.nm 2 false) (.seq (.var 1)) .non (.bc .int (.cons (.var 2) .nil))) .nil)) (.cst (.int 1))))) [some (.sh (.exc 12 none)), some (.sh (.lst (bs12.map Dv.bl))), none, none] = .ok (.sh (.bl (!true || (!true || !decide ((1 : Int) = 1))))) :=
    ev_orD (ev_not (ev_isa (ev_var rfl rfl) h6)) fun _ => ev_orD (ev_not (ev_isv (ev_var rfl rfl) h12)) fun _ => ev_cmp (ev_bc (bs_cons comp bs_nil) sm12) ev_cst (c_ne 1 1)
  refine call_ret (d := r_l_class.d) rfl rfl (?_ : ∃ e1, execB (clI dat.pg n) b_l_class [some (.sh (.exc 12 none)), none, none, none] = .rt _ e1)
  unfold b_l_class
  apply Exists.intro
  refine nx_asg (tg := .nm 1 false) (e1 := [some (.sh (.exc 12 none)), some (.sh (.lst [.bl false, .bl false, .bl false])), none, none]) (ev_lst (es_cons (ev_isa (ev_var rfl rfl) h18) rfl (es_cons (ev_isa (ev_var rfl rfl) h25) rfl (es_cons (ev_isa (ev_var rfl rfl) h22) rfl (es_nil))))) rfl ?_
  refine nx_asg (tg := .nm 1 false) (e1 := [some (.sh (.exc 12 none)), some (.sh (.lst [.bl false, .bl false, .bl false, .bl false, .bl false, .bl false])), none, none]) (ev_bin (ev_var rfl rfl) (ev_lst (es_cons (ev_isa (ev_var rfl rfl) h10) rfl (es_cons (ev_isa (ev_var rfl rfl) h8) rfl (es_cons (ev_isa (ev_var rfl rfl) h20) rfl (es_nil))))) (b_addl (by unfold LIM; simp))) rfl ?_
  refine nx_asg (tg := .nm 1 false) (e1 := [some (.sh (.exc 12 none)), some (.sh (.lst [.bl false, .bl false, .bl false, .bl false, .bl false, .bl false, .bl false, .bl false, .bl false])), none, none]) (ev_bin (ev_var rfl rfl) (ev_lst (es_cons (ev_isa (ev_var rfl rfl) h24) rfl (es_cons (ev_isa (ev_var rfl rfl) h7) rfl (es_cons (ev_isa (ev_var rfl rfl) h11) rfl (es_nil))))) (b_addl (by unfold LIM; simp))) rfl ?_
  refine nx_asg (tg := .nm 1 false) (e1 := [some (.sh (.exc 12 none)), some (.sh (.lst [.bl false, .bl false, .bl false, .bl false, .bl false, .bl false, .bl false, .bl false, .bl false, .bl false, .bl false, .bl false])), none, none]) (ev_bin (ev_var rfl rfl) (ev_lst (es_cons (ev_isa (ev_var rfl rfl) h19) rfl (es_cons (ev_isa (ev_var rfl rfl) h23) rfl (es_cons (ev_isa (ev_var rfl rfl) h16) rfl (es_nil))))) (b_addl (by unfold LIM; simp))) rfl ?_
  refine nx_asg (tg := .nm 1 false) (e1 := [some (.sh (.exc 12 none)), some (.sh (.lst [.bl false, .bl false, .bl false, .bl false, .bl false, .bl false, .bl false, .bl false, .bl false, .bl false, .bl false, .bl false, .bl false, .bl true, .bl false])), none, none]) (ev_bin (ev_var rfl rfl) (ev_lst (es_cons (ev_isa (ev_var rfl rfl) h17) rfl (es_cons (ev_isa (ev_var rfl rfl) h12) rfl (es_cons (ev_isa (ev_var rfl rfl) h15) rfl (es_nil))))) (b_addl (by unfold LIM; simp))) rfl ?_
  refine nx_asg (tg := .nm 1 false) (e1 := [some (.sh (.exc 12 none)), some (.sh (.lst [.bl false, .bl false, .bl false, .bl false, .bl false, .bl false, .bl false, .bl false, .bl false, .bl false, .bl false, .bl false, .bl false, .bl true, .bl false, .bl false, .bl false, .bl false])), none, none]) (ev_bin (ev_var rfl rfl) (ev_lst (es_cons (ev_isa (ev_var rfl rfl) h26) rfl (es_cons (ev_isa (ev_var rfl rfl) h21) rfl (es_cons (ev_isa (ev_var rfl rfl) h9) rfl (es_nil))))) (b_addl (by unfold LIM; simp))) rfl ?_
  refine nx_asg (tg := .nm 1 false) (e1 := [some (.sh (.exc 12 none)), some (.sh (.lst (bs12.map Dv.bl))), none, none]) (ev_bin (ev_var rfl rfl) (ev_lst (es_cons (ev_isa (ev_var rfl rfl) h14) rfl (es_cons (ev_isa (ev_var rfl rfl) h13) rfl (es_nil)))) (b_addl (by unfold LIM; simp))) rfl ?_
  refine nx_iteF cond rfl (then_nil ?_)
  refine nx_asg (tg := .nm 3 false) (e1 := [some (.sh (.exc 12 none)), some (.sh (.lst (bs12.map Dv.bl))), none, some (.sh (.lst [.str "BadPaper", .str "BadStep", .str "NoAnswer", .str "NoBow", .str "NoCount", .str "NoDoor", .str "NoFormula", .str "NoFraction", .str "NoName"]))]) (ev_lst (es_cons ev_cst rfl (es_cons ev_cst rfl (es_cons ev_cst rfl (es_cons ev_cst rfl (es_cons ev_cst rfl (es_cons ev_cst rfl (es_cons ev_cst rfl (es_cons ev_cst rfl (es_cons ev_cst rfl (es_nil))))))))))) rfl ?_
  refine nx_asg (tg := .nm 3 false) (e1 := [some (.sh (.exc 12 none)), some (.sh (.lst (bs12.map Dv.bl))), none, some (.sh (.lst [.str "BadPaper", .str "BadStep", .str "NoAnswer", .str "NoBow", .str "NoCount", .str "NoDoor", .str "NoFormula", .str "NoFraction", .str "NoName", .str "NoNest", .str "NoQuestion", .str "NoRoad", .str "NoRule", .str "NoSets", .str "NoShare", .str "NoText", .str "NoThinning", .str "NoTie"]))]) (ev_bin (ev_var rfl rfl) (ev_lst (es_cons ev_cst rfl (es_cons ev_cst rfl (es_cons ev_cst rfl (es_cons ev_cst rfl (es_cons ev_cst rfl (es_cons ev_cst rfl (es_cons ev_cst rfl (es_cons ev_cst rfl (es_cons ev_cst rfl (es_nil))))))))))) (b_addl (by unfold LIM; simp))) rfl ?_
  exact rt_ret (ev_idx (ev_bin (ev_var rfl rfl) (ev_lst (es_cons ev_cst rfl (es_cons ev_cst rfl (es_nil)))) (b_addl (by unfold LIM; simp))) (ev_lix1 (ev_var rfl rfl) rfl ev_cst lx12) rfl)

def noLO (o : Option Sv) : Option Sv := match o with
  | some (.sh d) => if noL d then some (.sh d) else none
  | _ => none
theorem noLE_nil : noLE [] = [] := rfl
theorem noLE_cons (o : Option Sv) (e : Env) : noLE (o :: e) = noLO o :: noLE e := by
  cases o with
  | none => rfl
  | some sv => cases sv <;> rfl
theorem noLO_sh {d : Dv} (h : noL d = true) : noLO (some (.sh d)) = some (.sh d) := by
  show (if noL d then some (Sv.sh d) else none) = _
  rw [h]
  rfl
theorem noLO_no {d : Dv} (h : noL d = false) : noLO (some (.sh d)) = none := by
  show (if noL d then some (Sv.sh d) else none) = _
  rw [h]
  rfl
theorem noL_ints : ∀ N : List Int, noLs (N.map Dv.int) = true
  | [] => rfl
  | _ :: r => noL_ints r
theorem noL_td (N : List Int) : noL (td N) = true := noL_ints N
theorem noL_tps : ∀ P : List (Int × Int), noLs (P.map tp) = true
  | [] => rfl
  | _ :: r => noL_tps r
theorem noL_tp (P : List (Int × Int)) : noL (.tup (P.map tp)) = true := noL_tps P
theorem noL_dr (c : Int) (P R : List (Int × Int)) : noL (drQ c P R) = true := by
  show (true && (noLs (P.map tp) && (noLs (R.map tp) && true))) = true
  rw [noL_tps, noL_tps]
  rfl
theorem due_cases (c : Nat) (O A : List Int) : dueS c O A = "NoName" ∨ dueS c O A = "NoSets" ∨ (dueS c O A = "" ∧ St c O ∧ St c A ∧ A ≠ [] ∧ ∀ x ∈ A, x ∉ O) := by
  unfold dueS
  split
  · exact .inl rfl
  · rename_i h1
    split
    · exact .inr (.inl rfl)
    · rename_i h2
      rw [Bool.or_eq_true] at h1 h2
      have a1 : isSetB (c : Int) O = true := by
        cases z : isSetB (c : Int) O with
        | true => rfl
        | false => exact absurd (.inl (by rw [z]; rfl)) h1
      have a2 : isSetB (c : Int) A = true := by
        cases z : isSetB (c : Int) A with
        | true => rfl
        | false => exact absurd (.inr (by rw [z]; rfl)) h1
      refine .inr (.inr ⟨rfl, is_st a1, is_st a2, fun z => h2 (.inl (decide_eq_true z)), fun x hx hO => ?_⟩)
      have h3 : (A.filter fun x => decide (x ∈ O)) = [] := Classical.byContradiction fun z => h2 (.inr (by rw [decide_eq_false z]; rfl))
      have : x ∈ (A.filter fun x => decide (x ∈ O)) := List.mem_filter.mpr ⟨hx, decide_eq_true hO⟩
      rw [h3] at this
      cases this
theorem tail_ok (D : List Dv) (hd : Int) (c : Nat) (hc : 1 ≤ c ∧ c ≤ 6) (P R : List (Int × Int)) (hP : SPr c P) (hR : SPr c R) (lP : P.length ≤ 1000) (lR : R.length ≤ 6) (O A : List Int) (lO : O.length ≤ 1000) (lA : A.length ≤ 1000) :
    ∃ e1, execB (clI dat.pg 23) (.cons (b_law.at 4) (.cons (b_law.at 5) (.cons (b_law.at 6) (.cons (b_law.at 7) (.cons (b_law.at 8) (.cons (b_law.at 9) .nil)))))) [some (.sh (.lst D)), some (.sh (.int hd)), some (.sh (shD (c : Int) P R)), some (.sh (.tup [td O, td A])), none, none, none, none, none, none] = .rt (.sh (.bl true)) e1 := by
  have due : callI dat.pg 23 65 [.int (c : Int), .tup [td O, td A]] = .ok (.sh (.str (dueS c O A))) := due_ok 21 c O A lO lA
  have mk : makeI dat.pg 23 43 [.int (c : Int), .lst (P.map tp), .lst (R.map tp)] = .ok (drQ (c : Int) P R) := make_sp 21 c P R (.lst (P.map tp)) (.lst (R.map tp)) rfl rfl hc hP hR (by omega) lR
  have nlq : noL (.tup [td O, td A]) = true := by
    show (noL (td O) && (noL (td A) && true)) = true
    rw [noL_td, noL_td]
    rfl
  have nl : noLE [some (.sh (.lst D)), some (.sh (.int hd)), some (.sh (shD (c : Int) P R)), some (.sh (.tup [td O, td A])), some (.sh (.str (dueS c O A))), some (.sh (drQ (c : Int) P R)), some (.sh .non), some (.sh .non), none, none] = [none, some (.sh (.int hd)), none, some (.sh (.tup [td O, td A])), some (.sh (.str (dueS c O A))), some (.sh (drQ (c : Int) P R)), some (.sh .non), some (.sh .non), none, none] := by
    rw [noLE_cons, noLE_cons, noLE_cons, noLE_cons, noLE_cons, noLE_cons, noLE_cons, noLE_cons, noLE_cons, noLE_cons, noLE_nil, noLO_sh nlq, noLO_sh (noL_dr (c : Int) P R), noLO_no (d := shD (c : Int) P R) rfl, noLO_no (d := .lst D) rfl, noLO_sh (d := .int hd) rfl, noLO_sh (d := .str (dueS c O A)) rfl, noLO_sh (d := .non) rfl]
    rfl
  have i0 : index (shD (c : Int) P R) (.int 0) = .ok (.int (c : Int)) := rfl
  have i1 : index (shD (c : Int) P R) (.int 1) = .ok (.lst (P.map tp)) := rfl
  have i2 : index (shD (c : Int) P R) (.int 2) = .ok (.lst (R.map tp)) := rfl
  dsimp only [b_law, Blk.at]
  rcases due_cases c O A with hz | hz | ⟨hz, hO, hA, ne, dj⟩
  · rw [hz] at nl due
    apply Exists.intro
    walk_at "stp"
    walk_at "stp"
    walk_at "stp"
    walk_at "stp"
    have ha : evalE (clI dat.pg 23) (.call 73 (.cons (.var 5) (.cons (.var 3) .nil))) (noLE [some (.sh (.lst D)), some (.sh (.int hd)), some (.sh (shD (c : Int) P R)), some (.sh (.tup [td O, td A])), some (.sh (.str "NoName")), some (.sh (drQ (c : Int) P R)), some (.sh .non), some (.sh .non), none, none]) = .ex 11 none := by
      rw [nl]
      exact ev_callX (es_cons (ev_var rfl rfl) rfl (es_cons (ev_var rfl rfl) rfl es_nil)) (wanted_bad 19 c P R O A ((quest_bad 19 c P R O A lO lA).1 hz))
    refine rt_lndX (D := 11) (e1 := [some (.sh (.lst D)), some (.sh (.int hd)), some (.sh (shD (c : Int) P R)), some (.sh (.tup [td O, td A])), some (.sh (.str "NoName")), some (.sh (drQ (c : Int) P R)), some (.sh .non), some (.sh (.exc 11 none)), none, none]) rfl ha (by kernel_rfl) ?_
    refine q_retT (d := .bl true) (ev_cmp (ev_var rfl rfl) ev_cst ?_) (ev_cmp (ev_callI (es_cons (ev_var rfl rfl) rfl es_nil) (class11 22)) (ev_var rfl rfl) ?_)
    · kernel_rfl
    · kernel_rfl
  · rw [hz] at nl due
    apply Exists.intro
    walk_at "stp"
    walk_at "stp"
    walk_at "stp"
    walk_at "stp"
    have ha : evalE (clI dat.pg 23) (.call 73 (.cons (.var 5) (.cons (.var 3) .nil))) (noLE [some (.sh (.lst D)), some (.sh (.int hd)), some (.sh (shD (c : Int) P R)), some (.sh (.tup [td O, td A])), some (.sh (.str "NoSets")), some (.sh (drQ (c : Int) P R)), some (.sh .non), some (.sh .non), none, none]) = .ex 12 none := by
      rw [nl]
      exact ev_callX (es_cons (ev_var rfl rfl) rfl (es_cons (ev_var rfl rfl) rfl es_nil)) (wanted_bad 19 c P R O A ((quest_bad 19 c P R O A lO lA).2 hz))
    refine rt_lndX (D := 12) (e1 := [some (.sh (.lst D)), some (.sh (.int hd)), some (.sh (shD (c : Int) P R)), some (.sh (.tup [td O, td A])), some (.sh (.str "NoSets")), some (.sh (drQ (c : Int) P R)), some (.sh .non), some (.sh (.exc 12 none)), none, none]) rfl ha (by kernel_rfl) ?_
    refine q_retT (d := .bl true) (ev_cmp (ev_var rfl rfl) ev_cst ?_) (ev_cmp (ev_callI (es_cons (ev_var rfl rfl) rfl es_nil) (class12 22)) (ev_var rfl rfl) ?_)
    · kernel_rfl
    · kernel_rfl
  · rw [hz] at nl due
    have sW := st_want (P := P) hA dj
    have lW := sW.len
    have wa : callI dat.pg 23 73 [drQ (c : Int) P R, .tup [td O, td A]] = _ := wanted_ok 19 c hc P R hP hR lP lR O A hO hA ne dj
    have lw : callI dat.pg 23 77 [shD (c : Int) P R, .tup [td O, td A]] = _ := lwanted_ok 21 c hc.2 P R O A lP hA
    have lu : callI dat.pg 23 64 [shD (c : Int) P R, td (wantL c P O A)] = _ := llumps_ok 22 c hc.2 P R (wantL c P O A) (td (wantL c P O A)) .t sW.1 (by omega) (by omega)
    generalize wantL c P O A = W at *
    have same := c_eq_same (fit_two W (LL W R)) (by omega)
    have ns := c_ne_same same
    have nn : cmpop .IsNot .non .non = .ok false := rfl
    have tt : tyIs .tuple (.tup [td W, .lst ((LL W R).map td)]) = .ok true := rfl
    have nes : cmpop .NotEq (.str "") (.str "") = .ok false := by kernel_rfl
    apply Exists.intro
    walk_at "stp"
    walk_at "stp"
    walk_at "stp"
    walk_at "stp"
    have ha : evalE (clI dat.pg 23) (.call 73 (.cons (.var 5) (.cons (.var 3) .nil))) (noLE [some (.sh (.lst D)), some (.sh (.int hd)), some (.sh (shD (c : Int) P R)), some (.sh (.tup [td O, td A])), some (.sh (.str "")), some (.sh (drQ (c : Int) P R)), some (.sh .non), some (.sh .non), none, none]) = .ok (.sh (.tup [td W, .lst ((LL W R).map td)])) := by
      rw [nl]
      exact ev_callI (es_cons (ev_var rfl rfl) rfl (es_cons (ev_var rfl rfl) rfl es_nil)) wa
    refine nx_lndO (x := .tup [td W, .lst ((LL W R).map td)]) (e1 := [some (.sh (.lst D)), some (.sh (.int hd)), some (.sh (shD (c : Int) P R)), some (.sh (.tup [td O, td A])), some (.sh (.str "")), some (.sh (drQ (c : Int) P R)), none, some (.sh .non), none, some (.sh (td W))]) rfl ha ?_ ?_ ?_
    · refine q_retF (ev_cmp (ev_var rfl rfl) ev_cst nes) ?_
      refine q_asg (d := td W) (ev_callI (es_cons (ev_var rfl rfl) rfl (es_cons (ev_var rfl rfl) rfl es_nil)) lw) ?_
      refine q_retF (?_ : evalE _ _ _ = .ok (.sh (.bl (false || (!true || false))))) q_nil
      exact ev_orD (ev_cmp (ev_var rfl rfl) ev_cst nn) fun _ => ev_orD (ev_not (ev_isty (ev_var rfl rfl) tt)) fun _ => ev_cmp (ev_var rfl rfl) (ev_tup (es_cons (ev_var rfl rfl) rfl (es_cons (ev_callI (es_cons (ev_var rfl rfl) rfl (es_cons (ev_var rfl rfl) rfl es_nil)) lu) rfl es_nil))) ns
    · rfl
    · apply rt_ret (d := .bl true)
      exact ev_cmp (ev_callI (es_cons (ev_var rfl rfl) rfl (es_cons (ev_var rfl rfl) rfl es_nil)) wa) (ev_tup (es_cons (ev_var rfl rfl) rfl (es_cons (ev_callI (es_cons (ev_var rfl rfl) rfl (es_cons (ev_var rfl rfl) rfl es_nil)) lu) rfl es_nil))) same

theorem plain (ns : List Int) (h : ns.length ≤ 63) : callI dat.pg 24 r_law.id [.lst (ns.map Dv.int)] = .ok (.sh (.bl true)) := by
  have cell0 : callI dat.pg 23 29 [.lst (ns.map Dv.int), .int 0] = .ok (.sh (.int (ns[0]?.getD 0))) := cell_ok 22 ns 0
  have cell1 : callI dat.pg 23 29 [.lst (ns.map Dv.int), .int 1] = .ok (.sh (.int (ns[1]?.getD 0))) := cell_ok 22 ns 1
  have cell2 : callI dat.pg 23 29 [.lst (ns.map Dv.int), .int 2] = .ok (.sh (.int (ns[2]?.getD 0))) := cell_ok 22 ns 2
  obtain ⟨hd, hd0, mx0⟩ := mix_ok 22 (ns[0]?.getD 0) 0 (by omega)
  obtain ⟨z1, hz1, mx1⟩ := mix_ok 22 (ns[1]?.getD 0) 1 (by omega)
  obtain ⟨z2, hz2, mx2⟩ := mix_ok 22 (ns[2]?.getD 0) 2 (by omega)
  have mx0 : callI dat.pg 23 74 [.int (ns[0]?.getD 0), .int 0] = .ok (.sh (.int hd)) := mx0
  have mx1 : callI dat.pg 23 74 [.int (ns[1]?.getD 0), .int 1] = .ok (.sh (.int z1)) := mx1
  have mx2 : callI dat.pg 23 74 [.int (ns[2]?.getD 0), .int 2] = .ok (.sh (.int z2)) := mx2
  generalize ns[0]?.getD 0 = u0 at *
  generalize ns[1]?.getD 0 = u1 at *
  generalize ns[2]?.getD 0 = u2 at *
  obtain ⟨c, P, R, hc, hP, hR, lP, lR, hdr⟩ := ldraw_ok 22 z1 6 (by omega)
  have hdr : callI dat.pg 23 75 [.int z1, .int 1, .int 6] = .ok (.l1 [.int (c : Int), .lst (P.map tp), .lst (R.map tp)]) := hdr
  obtain ⟨O, A, hO, hA, ne, dj, hq⟩ := quest_ok 22 z2 c hc
  have oL := hO.len
  have aL := hA.len
  obtain ⟨O2, A2, lO, lA, hs⟩ := spoilt_ok 22 (hd / 3) c hc.2 O A (by omega) (by omega)
  have i0 : index (shD (c : Int) P R) (.int 0) = .ok (.int (c : Int)) := rfl
  have t1 := tail_ok (ns.map Dv.int) hd c hc P R hP hR (by omega) lR O A (by omega) (by omega)
  have t2 := tail_ok (ns.map Dv.int) hd c hc P R hP hR (by omega) lR O2 A2 lO lA
  dsimp only [b_law, Blk.at] at t1 t2
  refine call_ret (d := r_law.d) rfl rfl (?_ : ∃ e1, execB (clI dat.pg 23) b_law [some (.sh (.lst (ns.map Dv.int))), none, none, none, none, none, none, none, none, none] = .rt _ e1)
  unfold b_law
  obtain ⟨e1, t1⟩ := t1
  obtain ⟨e2, t2⟩ := t2
  by_cases hm : hd % 3 = 1
  · refine ⟨e2, ?_⟩
    walk_at "stp"
    walk_at "stp"
    walk_at "stp"
    refine nx_iteT (k := decide (hd % 3 = 1)) ?_ (decide_eq_true hm) (then_nx (e1 := [some (.sh (.lst (ns.map Dv.int))), some (.sh (.int hd)), some (.sh (shD (c : Int) P R)), some (.sh (.tup [td O2, td A2])), none, none, none, none, none, none]) ?_ t2)
    · walk_at "nrm"
      walk_at "ev"
    · walk_at "nrm"
      walk_at "stp"
      exact blk_nil
  · refine ⟨e1, ?_⟩
    walk_at "stp"
    walk_at "stp"
    walk_at "stp"
    refine nx_iteF (k := decide (hd % 3 = 1)) ?_ (decide_eq_false hm) (then_nil t1)
    walk_at "nrm"
    walk_at "ev"

set_option maxHeartbeats 0

end Dg
open PySem PySem.W PySem.Calls PyProof.Rows
theorem PySem.Challenge.cw_doingbook_k41_wanted_holds : PySem.Challenge.rw_doingbook_k41_wanted.Holds := by
  w_on; o_law
  refine HandSHeadRun.head_any (r := OpenLaw.row PySem.Challenge.rw_doingbook_k41_wanted) (q := view (OpenLaw.row PySem.Challenge.rw_doingbook_k41_wanted).prog [48]) (H := Dg.hk) (ob := Dg.ob) (M := 20000) (loose := Dg.lo) (d := HandSHeadRun.topDef (OpenLaw.row PySem.Challenge.rw_doingbook_k41_wanted).prog 48) (kwd := []) Dg.ob_eq
    (by kernel_rfl) (fun s => by kernel_rfl) Dg.run (by kernel_rfl) (by kernel_rfl) (by kernel_rfl) (by rfl) (by first | assumption | decide +kernel) (by decide +kernel) ⟨rfl, rfl, rfl, rfl, rfl, by decide +kernel⟩ ?hw ?hc
  case hw => w_witness2
  case hc => exact Dg.walk_d (l := PySem.Challenge.rw_doingbook_k41_wanted) (lv := 24) (r := Dg.r_law) (x := "_law_script") rfl (by kernel_rfl) ⟨rfl, by decide, by decide⟩ (by kernel_rfl) Dg.dat_ok (by unfold Dg.dat; simp) rfl rfl Dg.plain

