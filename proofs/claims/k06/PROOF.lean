import PyProof.Rows.All
import Wide.All
import OpenK.AllK
import Wide.FinOn
import KE.KStateDown
import HandS.Base
import HandS.Call
import HandS.Ends
import HandS.More
import HandS.Defaults
import HandS.Head0
import HandS.Head1
import HandS.Head2
import HandS.HeadEnd
import HandS.HeadHook1
import HandS.HeadHook2
import HandS.ForMost
import HandS.Exc
import HandS.ExcOwn
import HandS.CallSlots
import HandS.Flow
import HandS.Slots
import HandS.SlotsOwn
import HandS.TupAny
import HandS.TupMul
import HandS.TupLe
import HandS.Deep
import PyProof.EqAt
import PyProof.EqKinds
import PyProof.TupleCall
import PyProof.Rows.SortShell
import KE.KSortTup
import HandS.List
import HandS.Dict
import HandS.Sort
import HandS.SortOrd
import HandS.SortRule
import HandS.SortInts
import HandS.IsInst
import HandS.Style
import HandS.Rev
import HandS.Star
import HandS.Walk
import HandS.Zip
import KE.GoesEnum
import KE.GoesZip
import KE.GoesMore
import KE.KDictZip
import HandS.Conv
import HandS.DictComp
import PySem.Challenge.RW_rowsthrough_k06_whole_ranks_echelons_and
set_option Elab.async false
set_option linter.all false
/-! AlgS: rows of ints by the order of tuples, and what sorting tells. -/
set_option Elab.async false
set_option linter.all false
/-! CoreA: a small language over plain data, with its evaluator. Lists are values; a slot of a frame says whether its list is its own. -/
namespace RT
open PySem

inductive D where
  | non | bl (b : Bool) | int (i : Int) | str (x : Str)
  | tup (xs : List D) | lst (xs : List D) | dct (kvs : List (L2.Key × D))
  | obj (c : Nat) (fs : List (Option D)) | fn (f : Nat) | ty (n : String)
  | clo (l : Nat) (vs : List D) | exv (c : Nat) (v : D) | sls (xs : List D)
  deriving Inhabited

/-- shared, own, locked, handed in to be changed -/
inductive Fl where
  | sh | ow | lk | io
  deriving DecidableEq
abbrev Slot := Option (Fl × D)
abbrev Nv := List Slot
inductive R (α : Type) where
  | ok (a : α) (e : Nv) | exc (c : Nat) (v : D) (e : Nv) | bad
/-! ### data -/
inductive Bop where | add | sub | mul | mod | div | pow
  deriving DecidableEq
inductive Cop where | eq | ne | lt | le | gt | ge | isn | nisn | inn | nin
  deriving DecidableEq
inductive Ty where | int | bool | str | tuple | list | dict | cls (c : Nat)
  deriving DecidableEq
inductive Blt where
  | len | tuple | list | int | all | any | max | min | abs | sum | sorted | divmod | repr | str | dict | maxl | minl | isi (t : Ty)
  deriving DecidableEq

/-! ### the language -/
inductive T where
  | v (i : Nat) | fld (i c k : Nat) | t (ts : List T)
inductive E where
  | non | bl (b : Bool) | int (i : Int) | str (x : Str) | dn
  | var (i : Nat) | glb (g : Nat) | fnv (f : Nat)
  | tup (as : List E) | lst (as : List E) | star (a : E)
  | bin (op : Bop) (a b : E) | neg (a : E)
  | cmp (op : Cop) (a b : E) | chn (o1 o2 : Cop) (a b c : E)
  | and (a b : E) | or (a b : E) | not (a : E) | ife (c a b : E)
  | idx (a i : E) | slc (a : E) (lo hi : Option E) | rev (a : E)
  | blt (b : Blt) (as : List E)
  | call (f : Nat) (io : Option Nat) (as : List E) | callF (f : Nat) (a : E) | callL (f i : Nat) (as : List E)
  | new (c f : Nat) (as : List E)
  | fld (a : E) (c k : Nat) | prop (a : E) (c f : Nat)
  | pop (i : Nat) (a : Option E) | app (i : Nat) (a : E) | get (a k d : E)
  | lc2 (x : E) (vs : List Nat) (t : T) (src : E) (ts : List E) (vs1 : List Nat) (t1 : T) (src1 : E) (ts1 : List E) | ezp (a b : E) | ext (i : Nat) (a : E) | lrg (tp : Bool) (a b : E)
  | lc (x : E) (vs : List Nat) (t : T) (src : E) (ts : List E) | dc (k x : E) (vs : List Nat) (t : T) (src : E) (ts : List E)
  | rng (a b : E) (st : Int) | enm (a : E) | zip (a b : E) | its (a : E) | nvr
inductive S where
  | set (t : T) (e : E) | par (is : List Nat) (es : List E)
  | aug (i : Nat) (op : Bop) (e : E)
  | seti (i : Nat) (k v : E)
  | ex (e : E) | ret (e : E) | retN
  | ite (c : E) (a b : List S) | for (t : T) (src : E) (b : List S) | whl (c : E) (b : List S)
  | brk | cnt | pass
  | rai (c : Nat) (e : E) | nvr

/-! ### frames -/
/-! ### statements -/
/-- a def: how many parameters, how many slots, whether the first one is handed in to be changed -/
structure Fn where
  np : Nat
  ns : Nat
  io : Bool
  body : List S
end RT

set_option Elab.async false
set_option linter.all false
set_option maxRecDepth 100000
/-! CoreB: how plain data lies in the abstract heap; what a reading has to show. -/
namespace RT
open PySem PySem.Spec PyProof.Rows L2

structure Ct where
  K : PySem.W.Frag
  fnA : Nat → Addr
  clA : Nat → Addr
  exN : Nat → Option Str
  cs : Nat → Bool

/-! ### an own list's contents, frames -/
/-- the cells that are reserved; the fields' cell of what is handed in -/
structure Rv where
  rs : Addr → Prop
  dx : Option Addr
abbrev Rv.add (R : Rv) (p : Addr) : Rv := ⟨fun a => R.rs a ∨ a = p, R.dx⟩
end RT

set_option Elab.async false
set_option linter.all false
set_option maxRecDepth 100000
/-! CoreC: the relation under freezing and laying. -/
set_option Elab.async false
set_option linter.all false
set_option maxRecDepth 100000
/-! CoreD: operations by values. -/
namespace RT
open PySem PySem.Spec PyProof.Rows L2

def opr : Bop → Operator
  | .add => .Add | .sub => .Sub | .mul => .Mult | .mod => .Mod | .div => .FloorDiv | .pow => .Pow
def cpr : Cop → CmpOp
  | .eq => .Eq | .ne => .NotEq | .lt => .Lt | .le => .LtE | .gt => .Gt | .ge => .GtE | .isn => .Is | .nisn => .IsNot | .inn => .In | .nin => .NotIn

end RT

set_option Elab.async false
set_option linter.all false
set_option maxRecDepth 100000
set_option maxHeartbeats 4000000
/-! CoreSo: sorted of tuples of ints. -/
set_option Elab.async false
set_option linter.all false
set_option maxRecDepth 100000
/-! CoreE: subscripts, slices, built-in calls by values. -/
set_option Elab.async false
set_option linter.all false
set_option maxRecDepth 100000
/-! CoreF: readings by the evaluator; the expressions without calls. -/
namespace RT
open PySem PySem.Spec PyProof.Rows L2

/-! ### rules -/
def notStar : Expr → Bool
  | .Starred _ _ => false
  | _ => true
end RT

set_option Elab.async false
set_option linter.all false
set_option maxRecDepth 100000
/-! CoreG: calls, and what is left of the expressions. -/
set_option Elab.async false
set_option linter.all false
set_option maxRecDepth 100000
/-! CoreGl: a call to which one's own lists are lent. -/
set_option Elab.async false
set_option linter.all false
set_option maxRecDepth 100000
/-! CoreH: the other expressions. -/
set_option Elab.async false
set_option linter.all false
set_option maxRecDepth 100000
/-! CoreI: fields, instances, methods of lists. -/
namespace RT
open PySem PySem.Spec PyProof.Rows L2

/-- o.f where o is no super() -/
def plainO : Expr → Bool
  | .Name _ _ => true
  | .Attribute _ _ _ => true
  | .Subscript _ _ _ => true
  | .Call _ (_ :: _) _ _ => true
  | _ => false
end RT

set_option Elab.async false
set_option linter.all false
set_option maxRecDepth 100000
/-! CoreJ: instances made; methods of lists and dicts. -/
set_option Elab.async false
set_option linter.all false
set_option maxRecDepth 100000
set_option maxHeartbeats 1000000
/-! CoreK: what is walked. -/
set_option Elab.async false
set_option linter.all false
set_option maxRecDepth 100000
set_option maxHeartbeats 1000000
/-! CoreL: zip; the sources' readings. -/
set_option Elab.async false
set_option linter.all false
set_option maxRecDepth 100000
set_option maxHeartbeats 1000000
/-! CoreEz: enumerate over zip. -/
set_option Elab.async false
set_option linter.all false
set_option maxRecDepth 100000
/-! CoreM: the sources. -/
set_option Elab.async false
set_option linter.all false
set_option maxRecDepth 100000
/-! CoreRg: lists and tuples of ranges. -/
set_option Elab.async false
set_option linter.all false
set_option maxRecDepth 100000
/-! CoreN: targets, comprehensions. -/
namespace RT
open PySem PySem.Spec PyProof.Rows L2

/-- the names of a target -/
def tSl : T → List Nat
  | .v i => [i]
  | .fld _ _ _ => []
  | .t ts => tSls ts
where
  tSls : List T → List Nat
  | [] => []
  | t :: ts => tSl t ++ tSls ts
/-- no fields -/
def tPl : T → Bool
  | .v _ => true
  | .fld _ _ _ => false
  | .t ts => tPls ts
where
  tPls : List T → Bool
  | [] => true
  | t :: ts => tPl t && tPls ts
end RT

set_option Elab.async false
set_option linter.all false
set_option maxRecDepth 100000
/-! CoreO: a comprehension's reading. -/
set_option Elab.async false
set_option linter.all false
set_option maxRecDepth 100000
/-! CoreDc: a dict comprehension's reading. -/
set_option Elab.async false
set_option linter.all false
set_option maxRecDepth 100000
/-! CoreP: statements. -/
namespace RT
open PySem PySem.Spec PyProof.Rows L2

section
/-! ### blocks -/
def noComp : Expr → Bool
  | .ListComp _ _ _ _ => false
  | .SetComp _ _ _ _ => false
  | .DictComp _ _ _ _ _ => false
  | _ => true
/-! ### assignments -/
/-! ### loops -/
end
end RT

set_option Elab.async false
set_option linter.all false
set_option maxRecDepth 100000
/-! CoreQ: fields; several names at once. -/
set_option Elab.async false
set_option linter.all false
set_option maxRecDepth 100000
/-! CoreR: several names at once. -/
set_option Elab.async false
set_option linter.all false
set_option maxRecDepth 100000
/-! CoreS: what is locked stays so. -/
set_option Elab.async false
set_option linter.all false
set_option maxRecDepth 100000
/-! CoreLc: comprehensions of two clauses. -/
set_option Elab.async false
set_option linter.all false
set_option maxRecDepth 100000
/-! CoreT: the check of an expression against its core, and what it gives. -/
namespace RT
open PySem PySem.Spec PyProof.Rows L2

structure Tab where
  fns : List (Str × Nat)
  cls : List (Str × Nat × Nat)
  glb : List (Str × Nat)
  fld : List (Nat × Str × Nat)
  prp : List (Nat × Str × Nat)
def glB (sc : Scope) (x : Str) : Bool := decide (sc.names.lookup x = some .globalImplicit) && !(x == ("__debug__" : Str))
def visB (sc : Scope) (x : Str) : Bool := (match sc.names.lookup x with
  | some .local => true
  | some .cell => true
  | some .free => true
  | _ => false) && (!(x == ("__debug__" : Str)) && !(x == ("__classdict__" : Str)))
def bltN : Blt → Option Str
  | .len => some "len" | .all => some "all" | .any => some "any" | .max => some "max" | .min => some "min" | .abs => some "abs" | .sum => some "sum" | .divmod => some "divmod" | .sorted => some "sorted"
  | .maxl => some "max" | .minl => some "min" | .tuple => some "tuple" | .list => some "list" | .int => some "int" | _ => none
def blNames : List Str := ["len", "all", "any", "max", "min", "abs", "sum", "divmod", "sorted", "tuple", "list", "int", "range", "enumerate", "zip", "isinstance", "bool", "str", "dict"]
def tyN : Ty → Option Str
  | .int => some "int" | .bool => some "bool" | .str => some "str" | .tuple => some "tuple" | .list => some "list" | .dict => some "dict" | .cls _ => none
def notSl : Expr → Bool
  | .Slice _ _ _ _ => false
  | _ => true
/-- an expression that may stand as a test -/
def condB : Expr → Bool
  | .IfExp _ _ _ _ => false
  | _ => true
def lnB (a b : Pos) : Bool := a.endLine == b.line
def notSet : Expr → Bool
  | .Set _ _ _ => false
  | _ => true
def isZ : E → Bool
  | .int i => decide (i = 0)
  | _ => false
def isM1 : Expr → Bool
  | .UnaryOp .USub (.Constant (.int i) _ _) _ => decide (i = 1)
  | _ => false
def isTp : Expr → Bool
  | .Tuple _ _ _ => true
  | _ => false
def bltChk (ty : Ty → Expr → Bool) (bb : Blt) (f : Str) (x : Expr) (xs : List Expr) (n : Nat) (l1 l : Bool) : Bool := match bb, xs with
  | .isi t, [y] => f == ("isinstance" : Str) && decide (n = 1) && notStar x && notStar y && l1 && ty t y
  | _, _ => decide (bltN bb = some f) && (x :: xs).all notStar && l
def rgeChk (ia ib : Expr → Bool) (za : Bool) : List Expr → Bool
  | [y] => za && notStar y && ib y
  | [x, y] => notStar x && notStar y && ia x && ib y
  | _ => false
def rngChk (ia ib : Expr → Bool) (za : Bool) (st : Int) : List Expr → Bool
  | [y] => za && decide (st = 1) && notStar y && ib y
  | [x, y] => decide (st = 1) && notStar x && notStar y && ia x && ib y
  | [x, y, z] => decide (st = -1) && isM1 z && notStar x && notStar y && ia x && ib y
  | _ => false
section
variable (tb : Tab) (TB : Nat → Option Fn) (N : List Str)
/-- a target; os: whose cells are stored to -/
def isG (cellOk : Str → Bool) (sc : Scope) : T → Expr → Bool
  | .v i, .Name x _ => decide (N[i]? = some x) && (match sc.names.lookup x with
    | some .local => true
    | some .cell => cellOk x
    | _ => false)
  | .fld i c k, .Attribute (.Name y _) f _ => decide (N[i]? = some y) && visB sc y && decide ((c, f, k) ∈ tb.fld)
  | .t ts, .Tuple es _ _ => isGs cellOk sc ts es
  | _, _ => false
where
  isGs (cellOk : Str → Bool) (sc : Scope) : List T → List Expr → Bool
  | [], [] => true
  | t :: ts, e :: es => notStar e && isG cellOk sc t e && isGs cellOk sc ts es
  | _, _ => false
def isTyE (sc : Scope) : Ty → Expr → Bool
  | .cls c, .Name x _ => glB sc x && (match tb.cls.lookup x with
    | some (c', _) => c == c'
    | none => false)
  | t, .Name x _ => glB sc x && decide (tyN t = some x)
  | _, _ => false
mutual
def isE : E → Scope → Expr → Bool
  | .non, _, .Constant .none _ _ => true
  | .bl b, _, .Constant (.bool b') _ _ => b == b'
  | .int i, _, .Constant (.int j) _ _ => decide (i = j)
  | .str x, _, .Constant (.str y) _ _ => x == y
  | .var i, sc, .Name x _ => decide (N[i]? = some x) && visB sc x
  | .glb g, sc, .Name x _ => glB sc x && decide (tb.glb.lookup x = some g)
  | .dn, _, .Dict [] [] _ => true
  | .tup as, sc, .Tuple es _ _ => isL as sc es
  | .lst as, sc, .List es _ => isL as sc es
  | .bin op a b, sc, .BinOp x o y _ => decide (o = opr op) && isE a sc x && isE b sc y
  | .neg a, sc, .UnaryOp .USub x _ => isE a sc x
  | .cmp op a b, sc, .Compare x [o] [y] _ => decide (o = cpr op) && !(behindInMarks (cpr op) y) && isE a sc x && isE b sc y
  | .chn p q a b c, sc, .Compare x [o1, o2] [y, z] _ => decide (o1 = cpr p) && decide (o2 = cpr q) && !(behindInMarks (cpr q) z) && isE a sc x && isE b sc y && isE c sc z
  | .and a b, sc, .BoolOp .And (x :: y :: rest) pos => condB x && isE a sc x && (match rest with
    | [] => condB y && isE b sc y
    | _ => isE b sc (.BoolOp .And (y :: rest) pos))
  | .or a b, sc, .BoolOp .Or (x :: y :: rest) pos => condB x && isE a sc x && (match rest with
    | [] => condB y && isE b sc y
    | _ => isE b sc (.BoolOp .Or (y :: rest) pos))
  | .not a, sc, .UnaryOp .Not x _ => condB x && isE a sc x
  | .ife c a b, sc, .IfExp t x y _ => condB t && isE c sc t && isE a sc x && isE b sc y
  | .idx a i, sc, .Subscript x s _ => notSl s && isE a sc x && isE i sc s
  | .slc a lo hi, sc, .Subscript x (.Slice l h none _) _ => isE a sc x && isO lo sc l && isO hi sc h
  | .rev a, sc, .Subscript x (.Slice none none (some (.UnaryOp .USub (.Constant (.int 1) _ _) _)) _) _ => isE a sc x
  | .blt bb as, sc, .Call (.Name f _) (x :: xs) [] _ => glB sc f && bltChk (isTyE tb sc) bb f x xs as.length (isL as sc [x]) (isL as sc (x :: xs))
  | .call f none as, sc, .Call (.Name x _) (y :: ys) [] _ => glB sc x && decide (tb.fns.lookup x = some f) && (match TB f with
    | some d => !d.io
    | none => false) && (y :: ys).all notStar && isL as sc (y :: ys)
  | .call f (some i) as, sc, .Call (.Name x _) (.Name y _ :: ys) [] _ => glB sc x && decide (tb.fns.lookup x = some f) && (match TB f with
    | some d => d.io
    | none => false) && decide (N[i]? = some y) && visB sc y && ys.all notStar && isL as sc ys
  | .callL f i as, sc, .Call (.Name x _) (.Name y _ :: ys) [] _ => glB sc x && decide (tb.fns.lookup x = some f) && (match TB f with
    | some d => d.io
    | none => false) && decide (N[i]? = some y) && visB sc y && ys.all notStar && isL as sc ys
  | .callF f a, sc, .Call (.Name x _) [y] [] _ => glB sc x && decide (tb.fns.lookup x = some f) && (match TB f with
    | some d => d.io
    | none => false) && notStar y && isE a sc y
  | .new c f as, sc, .Call (.Name x _) (y :: ys) [] _ => glB sc x && decide (tb.cls.lookup x = some (c, f)) && (match TB f with
    | some d => d.io && decide (0 < d.np)
    | none => false) && (y :: ys).all notStar && isL as sc (y :: ys)
  | .fld a c k, sc, .Attribute x f _ => plainO x && decide ((c, f, k) ∈ tb.fld) && isE a sc x
  | .prop a c f, sc, .Attribute x m _ => plainO x && decide ((c, m, f) ∈ tb.prp) && isE a sc x
  | .pop i none, sc, .Call (.Attribute (.Name y _) m apos) [] [] pos => m == ("pop" : Str) && decide (N[i]? = some y) && visB sc y && lnB apos pos
  | .pop i (some a), sc, .Call (.Attribute (.Name y _) m apos) [x] [] pos => m == ("pop" : Str) && decide (N[i]? = some y) && visB sc y && lnB apos pos && notStar x && isE a sc x
  | .app i a, sc, .Call (.Attribute (.Name y _) m apos) [x] [] pos => m == ("append" : Str) && decide (N[i]? = some y) && visB sc y && lnB apos pos && notStar x && isE a sc x
  | .get a k d, sc, .Call (.Attribute o m apos) [x, y] [] pos => m == ("get" : Str) && plainO o && lnB apos pos && notStar x && notStar y && isE a sc o && isE k sc x && isE d sc y
  | .lc2 x vs t src ts vs1 t1 src1 ts1, sc, .ListComp elt [⟨tg, iter, ifs, 0⟩, ⟨tg1, iter1, ifs1, 0⟩] scope _ => blkC N sc scope (vs.map fun i => ((N[i]?).getD "", i)) && isI src sc tg iter && isG tb N (fun y => scope.names.lookup y == some .cell) (relS scope sc) t tg && isT ts (relS scope sc) ifs && isI src1 (relS scope sc) tg1 iter1 && isG tb N (fun y => scope.names.lookup y == some .cell) (relS scope sc) t1 tg1 && isT ts1 (relS scope sc) ifs1 && isE x (relS scope sc) elt &&
      (tSl t).all (fun i => vs.contains i) && (tSl t1).all (fun i => vs1.contains i) && vs1.all (fun i => vs.contains i) && notSet iter && notSet iter1
  | .ext i a, sc, .Call (.Attribute (.Name y _) m apos) [x] [] pos => m == ("extend" : Str) && decide (N[i]? = some y) && visB sc y && lnB apos pos && notStar x && isE a sc x
  | .lrg tp a b, sc, .Call (.Name f _) [.Call (.Name g _) es [] _] [] _ => f == (if tp then "tuple" else "list" : Str) && g == ("range" : Str) && glB sc f && glB sc g && rgeChk (fun x => isE a sc x) (fun x => isE b sc x) (isZ a) es
  | .lc x vs t src ts, sc, .ListComp elt [⟨tg, iter, ifs, 0⟩] scope _ => blkC N sc scope (vs.map fun i => ((N[i]?).getD "", i)) && isI src sc tg iter && isG tb N (fun y => scope.names.lookup y == some .cell) (relS scope sc) t tg && isT ts (relS scope sc) ifs && isE x (relS scope sc) elt &&
      (tSl t).all (fun i => vs.contains i) && tPl t && notSet iter && notStar tg
  | .dc k x vs t src ts, sc, .DictComp ke elt [⟨tg, iter, ifs, 0⟩] scope _ => blkC N sc scope (vs.map fun i => ((N[i]?).getD "", i)) && isI src sc tg iter && isG tb N (fun y => scope.names.lookup y == some .cell) (relS scope sc) t tg && isT ts (relS scope sc) ifs && isE k (relS scope sc) ke && isE x (relS scope sc) elt &&
      (tSl t).all (fun i => vs.contains i) && tPl t && notSet iter && notStar tg
  | .nvr, _, _ => true
  | _, _, _ => false
termination_by structural x => x
def isL : List E → Scope → List Expr → Bool
  | [], _, [] => true
  | .star a :: r, sc, .Starred x _ :: es => isE a sc x && isL r sc es
  | a :: r, sc, x :: es => notStar x && isE a sc x && isL r sc es
  | _, _, _ => false
termination_by structural x => x
def isO : Option E → Scope → Option Expr → Bool
  | none, _, none => true
  | some a, sc, some x => isE a sc x
  | _, _, _ => false
termination_by structural x => x
def isT : List E → Scope → List Expr → Bool
  | [], _, [] => true
  | [a], sc, [x] => condB x && isE a sc x
  | _, _, _ => false
termination_by structural x => x
def isI : E → Scope → Expr → Expr → Bool
  | .rng a b st, sc, _, .Call (.Name f _) es [] _ => f == ("range" : Str) && glB sc f && rngChk (fun x => isE a sc x) (fun x => isE b sc x) (isZ a) st es
  | .enm a, sc, tg, .Call (.Name f _) [x] [] _ => isTp tg && f == ("enumerate" : Str) && glB sc f && notStar x && isE a sc x
  | .zip a b, sc, tg, .Call (.Name f _) [x, y] [] _ => isTp tg && f == ("zip" : Str) && glB sc f && notStar x && notStar y && isE a sc x && isE b sc y
  | .ezp a b, sc, tg, .Call (.Name f _) [.Call (.Name g _) [x, y] [] _] [] _ => isTp tg && f == ("enumerate" : Str) && g == ("zip" : Str) && glB sc f && glB sc g && notStar x && notStar y && isE a sc x && isE b sc y
  | .its a, sc, _, e => isE a sc e
  | _, _, _, _ => false
termination_by structural x => x
end
end
end RT

set_option Elab.async false
set_option linter.all false
set_option maxRecDepth 100000
/-! CoreU: what is checked is read so. -/
set_option Elab.async false
set_option linter.all false
set_option maxRecDepth 100000
set_option maxHeartbeats 1000000
/-! CoreV: expressions: the whole. -/
set_option Elab.async false
set_option linter.all false
set_option maxRecDepth 100000
/-! CoreW: the other statements; their check. -/
namespace RT
open PySem PySem.Spec PyProof.Rows L2
section
def notLc (sc : Scope) : Expr → Bool
  | .Name x _ => !(sc.names.lookup x == some .local)
  | _ => true
def noSwap (sc : Scope) (ts vs : List Expr) : Bool := !(ts.length == 2 || ts.length == 3) || ts.any (notLc sc) || vs.all (foldedForSure 8)
end
end RT

set_option Elab.async false
set_option linter.all false
set_option maxRecDepth 100000
/-! CoreX: defs. -/
set_option Elab.async false
set_option linter.all false
set_option maxRecDepth 100000
set_option maxHeartbeats 1000000
/-! CoreY: the check of statements and defs. -/
namespace RT
open PySem PySem.Spec PyProof.Rows L2

def locB (sc : Scope) (x : Str) : Bool := match sc.names.lookup x with
  | some .local => true
  | some .cell => true
  | _ => false
def lclB (sc : Scope) (x : Str) : Bool := decide (sc.names.lookup x = some .local)
def isTT : T → Bool
  | .t _ => true
  | _ => false
def isTF : T → Bool
  | .fld _ _ _ => true
  | _ => false
def isLc : Expr → Bool
  | .ListComp _ _ _ _ => true
  | .DictComp _ _ _ _ _ => true
  | _ => false
def swOk (sc : Scope) : Expr → Expr → Bool
  | .Tuple ts _ _, .Tuple vs _ _ => noSwap sc ts vs
  | _, _ => true
def parChk (N : List Str) (sc : Scope) : List Nat → List Expr → List Expr → Bool
  | [i, j], [.Name x px, .Name y py], [e1, e2] => decide (N[i]? = some x) && decide (N[j]? = some y) && decide (i ≠ j) && lclB sc x && lclB sc y && (py.line == px.line) && !(x == y) && !(foldedForSure 8 e1 && foldedForSure 8 e2) && !(constantsAlone 8 e1 && constantsAlone 8 e2)
  | [i, j, l], [.Name x px, .Name y py, .Name z pz], [e1, e2, e3] => decide (N[i]? = some x) && decide (N[j]? = some y) && decide (N[l]? = some z) && decide (i ≠ j) && decide (i ≠ l) && decide (j ≠ l) && lclB sc x && lclB sc y && lclB sc z && (py.line == px.line) && (pz.line == px.line) && !(x == y) && !(x == z) && !(y == z) &&
      !(foldedForSure 8 e1 && foldedForSure 8 e2 && foldedForSure 8 e3) && !(constantsAlone 8 e1 && constantsAlone 8 e2 && constantsAlone 8 e3)
  | _, _, _ => false
section
variable (tb : Tab) (TB : Nat → Option Fn) (N : List Str) (sc : Scope)
mutual
def isS : S → Stmt → Bool
  | .set (.v i) a, .Assign [.Name x p0] e _ => decide (N[i]? = some x) && locB sc x && (noComp e || isLc e) && isE tb TB N a sc e
  | .set t a, .Assign [tg] e _ => (isTT t && isTp tg || isTF t) && isG tb N (fun _ => true) sc t tg && isE tb TB N a sc e && swOk sc tg e
  | .par is as, .Assign [.Tuple ts _ _] (.Tuple vs _ _) _ => parChk N sc is ts vs && vs.all notStar && isL tb TB N as sc vs
  | .aug i op a, .AugAssign (.Name x _) o e _ => decide (N[i]? = some x) && locB sc x && decide (o = opr op) && (decide (op = .add) || decide (op = .sub)) && isE tb TB N a sc e
  | .seti i k v, .Assign [.Subscript (.Name y _) s _] e _ => decide (N[i]? = some y) && visB sc y && notSl s && isE tb TB N v sc e && isE tb TB N k sc s
  | .pass, .Expr (.Constant (.str _) _ _) _ => true
  | .pass, .Pass _ => true
  | .ex a, .Expr e _ => noComp e && isE tb TB N a sc e
  | .ret a, .Return (some e) _ => isE tb TB N a sc e
  | .retN, .Return none _ => true
  | .ite c a b, .If t x y _ => condB t && isE tb TB N c sc t && isB a x && isB b y
  | .for t src b, .For tg iter body [] _ => isG tb N (fun _ => true) sc t tg && isI tb TB N src sc tg iter && notSet iter && isB b body
  | .whl c b, .While t body [] _ => condB t && isE tb TB N c sc t && isB b body
  | .brk, .Break _ => true
  | .cnt, .Continue _ => true
  | .nvr, _ => true
  | _, _ => false
termination_by structural x => x
def isB : List S → List Stmt → Bool
  | [], [] => true
  | s :: r, st :: rest => isS s st && isB r rest
  | _, _ => false
termination_by structural x => x
end
end
end RT

set_option Elab.async false
set_option linter.all false
set_option maxRecDepth 100000
set_option maxHeartbeats 1000000
/-! CoreZ: statements, defs: the whole. -/
set_option Elab.async false
set_option linter.all false
set_option maxRecDepth 100000
/-! CoreZa: all defs, by the number of calls in one another. -/
set_option Elab.async false
set_option linter.all false
set_option maxRecDepth 100000
/-! CoreZb: a def's facts by one Bool. -/
namespace RT
open PySem PySem.Spec PyProof.Rows L2
def parB (p : Arguments) : Bool := p.posonlyargs.isEmpty && p.kwonlyargs.isEmpty && p.vararg.isNone && p.kwarg.isNone
def parN (p : Arguments) : List Str := p.args.map (·.arg)
def scB (N P : List Str) (sc : Scope) : Bool := decide (sc.kind = .function) && !sc.isCoroutine && !sc.isGenerator && decide N.Nodup && decide (N.take P.length = P) && P.all (locB sc) && sc.names.all fun y => decide (y.2 ≠ .free)
def nonB : Value → Bool
  | .none => true
  | _ => false
def fdB (tb : Tab) (TB : Nat → Option Fn) (K : PySem.W.Frag) (d : Fn) (N : List Str) (fd : FuncData) : Bool := (match fd.body with
  | .stmts body => isB tb TB N fd.scope d.body body
  | _ => false) && decide (fd.globals = mainGlobals) && fd.closure.isEmpty && nonB fd.defaults && decide (fd.builtins = builtinsNs) && PySem.W.codeIn K fd.code fd.qualname && parB fd.params && decide (parN fd.params).Nodup && scB N (parN fd.params) fd.scope &&
  decide (d.np = (parN fd.params).length) && decide (d.ns = N.length)
def fnB (tb : Tab) (TB : Nat → Option Fn) (K : PySem.W.Frag) (a : Addr) (d : Fn) (N : List Str) : Bool := PySem.W.keepIn K (.ref a) && (match K.lookup a with
  | some ⟨_, _, .func fd, _⟩ => fdB tb TB K d N fd
  | _ => false)
/-! ### classes -/
def sclB (K : PySem.W.Frag) (a : Addr) : Bool := PySem.W.plainGet K a Str.empty && PySem.W.isClsIn K a && PySem.W.plainOver K a && decide (PySem.W.findIn K (.ref a) "__setattr__" = some (some (.builtin "object.__setattr__"))) &&
  decide (PySem.W.findIn K (.ref a) "__class__" = some (some (.builtin "object.__class__"))) && decide (PySem.W.specialIn K (.builtin "object.__class__") "__get__" = some (some (.builtin "getset_descriptor.__get__"))) && decide (PySem.W.takesIn K (.builtin "object.__class__") = some true) && decide (PySem.W.mroIn K a (.type "object") = some true)
def slotB (K : PySem.W.Frag) (a : Addr) (f : Str) (k : Nat) : Bool := match PySem.W.findIn K (.ref a) f with
  | some (some (.ref p)) => decide (PySem.W.specialIn K (.ref p) "__get__" = some (some (.builtin "member_descriptor.__get__"))) && decide (PySem.W.takesIn K (.ref p) = some true) && decide (PySem.W.typeIn K (.ref p) = some (.type "member_descriptor")) && decide (PySem.W.slotIn K p a = some k) && decide (k < 1000)
  | _ => false
def propB (K : PySem.W.Frag) (a g : Addr) (x : Str) : Bool := match PySem.W.findIn K (.ref a) x with
  | some (some (.ref p)) => decide (PySem.W.specialIn K (.ref p) "__get__" = some (some (.builtin "property.__get__"))) && decide (PySem.W.takesIn K (.ref p) = some true) && (match PySem.W.recIn K p "property" with
    | some (.ref q :: _) => decide (q = g)
    | _ => false)
  | _ => false
def mkB (K : PySem.W.Frag) (a g : Addr) : Bool := PySem.W.makesIn K a && decide (PySem.W.findIn K (.ref a) "__init__" = some (some (.ref g))) && PySem.W.isFn K (.ref g) && PySem.W.keepIn K (.ref a)
/-- a property's getter -/
def pgA (K : PySem.W.Frag) (a : Addr) (x : Str) : Addr := match PySem.W.findIn K (.ref a) x with
  | some (some (.ref p)) => (match PySem.W.recIn K p "property" with
    | some (.ref q :: _) => q
    | _ => 0)
  | _ => 0
end RT

set_option Elab.async false
set_option linter.all false
set_option maxRecDepth 100000
/-! CoreZc: a text's facts by one Bool. -/
namespace RT
open PySem PySem.Spec PyProof.Rows L2
/-- where a def stands: a name of the module, a class's method, a class's property -/
inductive Pl where
  | g (x : Str) | m (c x : Str) | p (c x : Str)
def Pl.at (K : PySem.W.Frag) : Pl → Addr
  | .g x => He.ga K x
  | .m c x => He.ma K (He.ga K c) x
  | .p c x => pgA K (He.ga K c) x
/-- a constant of the module -/
inductive Gc where
  | int (i : Int) | str (x : Str) | tI (is : List Int) | tS (xs : List Str)
  deriving DecidableEq
def Gc.ok (K : PySem.W.Frag) (x : Str) : Gc → Bool
  | .int i => (He.Fa.int x i).ok K
  | .str z => (He.Fa.str x z).ok K
  | .tI is => (He.Fa.glo x).ok K && He.tupB K x (is.map He.Dv.int)
  | .tS xs => (He.Fa.glo x).ok K && He.tupB K x (xs.map He.Dv.str)
/-- a law's text: defs, classes with slots, constants, each by its number; fields, properties -/
structure Txt where
  fns : List (Nat × Pl × Fn × List Str)
  cls : List (Nat × Str × Nat)
  glb : List (Nat × Str × Gc)
  fld : List (Nat × Str × Nat)
  prp : List (Nat × Str × Nat)
def Txt.TB (t : Txt) : Nat → Option Fn := fun f => (t.fns.lookup f).map (·.2.1)
def fnsOf : List (Nat × Pl × Fn × List Str) → List (Str × Nat)
  | [] => []
  | (n, .g x, _) :: r => (x, n) :: fnsOf r
  | _ :: r => fnsOf r
def clsOf : List (Nat × Str × Nat) → List (Str × Nat × Nat)
  | [] => []
  | (n, x, f) :: r => (x, n, f) :: clsOf r
def glbOf : List (Nat × Str × Gc) → List (Str × Nat)
  | [] => []
  | (n, x, _) :: r => (x, n) :: glbOf r
def ndB : List Nat → Bool
  | [] => true
  | x :: r => !(r.contains x) && ndB r
def Txt.tab (t : Txt) : Tab := ⟨fnsOf t.fns, clsOf t.cls, glbOf t.glb, t.fld, t.prp⟩
def Txt.C (t : Txt) (K : PySem.W.Frag) : Ct where
  K := K
  fnA := fun f => match t.fns.lookup f with
    | some q => q.1.at K
    | none => 0
  clA := fun c => match t.cls.lookup c with
    | some q => He.ga K q.1
    | none => 0
  exN := fun _ => none
  cs := fun c => (t.cls.lookup c).isSome
def tyNames : List String := ["NoneType", "int", "bool", "str", "tuple", "list", "dict"]
def notDbg (x : Str) : Bool := !(x == ("__debug__" : Str))
/-- one Bool for all -/
def Txt.ok (t : Txt) (K : PySem.W.Frag) : Bool :=
  (t.fns.all fun p => fnB t.tab t.TB K (p.2.1.at K) p.2.2.1 p.2.2.2 && (match p.2.1 with
    | .g x => (He.Fa.glo x).ok K && notDbg x
    | _ => true)) &&
  (t.cls.all fun p => (He.Fa.glo p.2.1).ok K && notDbg p.2.1 && sclB K (He.ga K p.2.1) && mkB K (He.ga K p.2.1) ((t.C K).fnA p.2.2) &&
    (t.cls.all fun r => decide (PySem.W.kitOne K (.ref (He.ga K p.2.1)) (.ref (He.ga K r.2.1)) = some (p.1 == r.1))) &&
    (tyNames.all fun n => decide (PySem.W.kitOne K (.ref (He.ga K p.2.1)) (.type n) = some false) && decide (PySem.W.kitOne K (.type n) (.ref (He.ga K p.2.1)) = some false))) &&
  (ndB (t.fns.map (·.1)) && ndB (t.cls.map (·.1)) && (t.glb.all fun p => decide ((t.glb.lookup p.1).map (·.2) = some p.2.2))) &&
  (t.glb.all fun p => p.2.2.ok K p.2.1) &&
  (blNames.all fun x => (He.Fa.free x).ok K) &&
  (t.fld.all fun q => slotB K ((t.C K).clA q.1) q.2.1 q.2.2) &&
  (t.prp.all fun q => (t.cls.lookup q.1).isSome && propB K ((t.C K).clA q.1) ((t.C K).fnA q.2.2) q.2.1 && (match t.TB q.2.2 with
    | some d => !d.io && decide (d.np = 1)
    | none => false))
end RT

set_option Elab.async false
set_option linter.all false
set_option maxRecDepth 100000
/-! CoreZd: a law's end. -/
namespace RT
def fn_0 : Fn := ⟨2, 4, false, [.set (.v 2) (.ife (.cmp .lt (.var 1) (.blt .len [.var 0])) (.blt .int [.idx (.var 0) (.var 1)]) (.bin .add (.bin .mul (.int 331) (.var 1)) (.int 113))), .set (.v 3) (.bin .mod (.blt .int [.blt .abs [.var 2]]) (.bin .pow (.bin .pow (.int 10) (.int 53)) (.int 6))), .ret (.lst [.blt .max [.int 0, .bin .sub (.var 3) (.bin .pow (.int 10) (.int 16))], .bin .add (.bin .add (.bin .add (.bin .mul (.bin .mod (.blt .int [.var 3]) (.int 2305843009213693907)) (.int 67)) (.bin .mul (.int 977) (.var 1))) (.bin .mul (.int 47) (.blt .int [.cmp .lt (.var 2) (.int 0)]))) (.int 31), .int 0])]⟩
def fn_1 : Fn := ⟨2, 5, true, [.ite (.cmp .gt (.idx (.var 0) (.int 0)) (.int 0)) [.set (.v 4) (.bin .mod (.blt .int [.idx (.var 0) (.int 0)]) (.var 1)), .seti 0 (.int 0) (.bin .div (.idx (.var 0) (.int 0)) (.var 1)), .ret (.var 4)] [], .seti 0 (.int 2) (.bin .add (.idx (.var 0) (.int 2)) (.int 1)), .set (.v 2) (.bin .mod (.blt .int [.bin .add (.idx (.var 0) (.int 1)) (.bin .mul (.int 49979687) (.idx (.var 0) (.int 2)))]) (.int 2305843009213693951)), .set (.v 3) (.bin .add (.bin .mul (.bin .mod (.blt .int [.bin .add (.bin .mul (.var 2) (.var 2)) (.bin .mul (.int 137) (.idx (.var 0) (.int 2)))]) (.int 2305843009213693921)) (.int 32452843)) (.var 2)), .ret (.bin .mod (.blt .int [.bin .div (.var 3) (.int 65587)]) (.var 1))]⟩
def fn_2 : Fn := ⟨2, 2, true, [.ret (.idx (.var 1) (.call 1 (some 0) [.blt .len [.var 1]]))]⟩
def fn_14 : Fn := ⟨1, 1, false, [.ret (.and (.blt (.isi .int) [.var 0]) (.not (.blt (.isi .bool) [.var 0])))]⟩
def fn_15 : Fn := ⟨3, 3, false, [.ret (.and (.call 14 none [.var 0]) (.chn .le .le (.var 1) (.var 0) (.var 2)))]⟩
def fn_16 : Fn := ⟨1, 1, false, [.ite (.or (.not (.call 15 none [.var 0, .int 0, .idx (.glb 1) (.neg (.int 1))])) (.cmp .nin (.var 0) (.glb 1))) [.nvr] []]⟩
def fn_22 : Fn := ⟨2, 2, false, [.ret (.call 15 none [.var 1, .int 0, .bin .sub (.var 0) (.int 1)])]⟩
def fn_36 : Fn := ⟨3, 4, true, [.ret (.blt .tuple [.lc (.call 2 (some 0) [.lst [.int 0, .call 1 (some 0) [.var 1], .call 1 (some 0) [.var 1]]]) [3] (.v 3) (.rng (.int 0) (.var 2) 1) []])]⟩
def fn_85 : Fn := ⟨1, 2, false, [.ite (.or (.not (.blt (.isi .tuple) [.var 0])) (.or (.cmp .gt (.blt .len [.var 0]) (.glb 2)) (.not (.blt .all [.lc (.blt (.isi .tuple) [.var 1]) [1] (.v 1) (.its (.var 0)) []])))) [.ret (.bl false)] [], .ret (.blt .all [.lc (.and (.cmp .eq (.blt .len [.var 1]) (.blt .len [.idx (.var 0) (.int 0)])) (.cmp .le (.blt .len [.var 1]) (.glb 2))) [1] (.v 1) (.its (.var 0)) []])]⟩
def fn_86 : Fn := ⟨2, 4, false, [.ret (.and (.call 85 none [.var 1]) (.blt .all [.lc2 (.call 22 none [.var 0, .var 3]) [2, 3] (.v 2) (.its (.var 1)) [] [3] (.v 3) (.its (.var 2)) []]))]⟩
def fn_87 : Fn := ⟨2, 2, false, [.ex (.call 16 none [.var 0]), .ite (.not (.call 86 none [.var 0, .var 1])) [.nvr] []]⟩
def fn_88 : Fn := ⟨1, 1, false, [.ret (.ife (.cmp .gt (.blt .len [.var 0]) (.int 0)) (.blt .len [.idx (.var 0) (.int 0)]) (.int 0))]⟩
def fn_89 : Fn := ⟨2, 4, false, [.set (.v 2) (.int 1), .for (.v 3) (.rng (.int 0) (.bin .sub (.var 0) (.glb 4)) 1) [.set (.v 2) (.bin .mod (.blt .int [.bin .mul (.var 2) (.var 1)]) (.var 0))], .ret (.var 2)]⟩
def fn_90 : Fn := ⟨4, 7, false, [.set (.v 4) (.idx (.var 1) (.var 3)), .ret (.ife (.cmp .ne (.var 4) (.int 0)) (.lc (.bin .mod (.blt .int [.bin .sub (.var 5) (.bin .mul (.var 4) (.var 6))]) (.var 0)) [5, 6] (.t [.v 5, .v 6]) (.zip (.var 1) (.var 2)) []) (.var 1))]⟩
def fn_91 : Fn := ⟨2, 11, false, [.par [3, 4] [.lc (.blt .list [.var 8]) [8] (.v 8) (.its (.var 1)) [], .int 0], .for (.v 2) (.rng (.int 0) (.call 88 none [.var 1]) 1) [.set (.v 5) (.lc (.var 9) [9, 8] (.t [.v 9, .v 8]) (.enm (.var 3)) [.cmp .ne (.idx (.var 8) (.var 2)) (.int 0)]), .ite (.cmp .ne (.var 5) (.lst [])) [.set (.v 6) (.pop 3 (some (.idx (.var 5) (.int 0)))), .set (.v 7) (.call 89 none [.var 0, .idx (.var 6) (.var 2)]), .set (.v 6) (.lc (.bin .mod (.blt .int [.bin .mul (.var 10) (.var 7)]) (.var 0)) [10] (.v 10) (.its (.var 6)) []), .set (.v 3) (.lc (.call 90 none [.var 0, .var 8, .var 6, .var 2]) [8] (.v 8) (.its (.var 3)) []), .aug 4 .add (.int 1)] []], .ret (.var 4)]⟩
def fn_92 : Fn := ⟨2, 2, false, [.ex (.call 87 none [.var 0, .var 1]), .ret (.call 91 none [.var 0, .var 1])]⟩
def fn_93 : Fn := ⟨3, 13, false, [.par [4, 5] [.lc (.blt .list [.var 9]) [9] (.v 9) (.its (.var 1)) [], .lst []], .for (.v 3) (.rng (.int 0) (.var 2) 1) [.set (.v 6) (.lc (.var 10) [10, 9] (.t [.v 10, .v 9]) (.enm (.var 4)) [.cmp .ne (.idx (.var 9) (.var 3)) (.int 0)]), .ite (.cmp .ne (.var 6) (.lst [])) [.set (.v 7) (.pop 4 (some (.idx (.var 6) (.int 0)))), .set (.v 8) (.call 89 none [.var 0, .idx (.var 7) (.var 3)]), .set (.v 7) (.lc (.bin .mod (.blt .int [.bin .mul (.var 11) (.var 8)]) (.var 0)) [11] (.v 11) (.its (.var 7)) []), .set (.v 4) (.lc (.call 90 none [.var 0, .var 9, .var 7, .var 3]) [9] (.v 9) (.its (.var 4)) []), .set (.v 5) (.lc (.tup [.var 12, .call 90 none [.var 0, .var 9, .var 7, .var 3]]) [12, 9] (.t [.v 12, .v 9]) (.its (.var 5)) []), .ex (.app 5 (.tup [.var 3, .var 7]))] []], .ret (.tup [.var 5, .var 4])]⟩
def fn_94 : Fn := ⟨2, 4, false, [.ret (.lc (.tup [.var 2, .blt .tuple [.var 3]]) [2, 3] (.t [.v 2, .v 3]) (.its (.idx (.call 93 none [.var 0, .var 1, .call 88 none [.var 1]]) (.int 0))) [])]⟩
def fn_95 : Fn := ⟨2, 4, false, [.ex (.call 87 none [.var 0, .var 1]), .ret (.blt .tuple [.lc (.var 3) [2, 3] (.t [.v 2, .v 3]) (.its (.call 94 none [.var 0, .var 1])) []])]⟩
def fn_96 : Fn := ⟨2, 11, false, [.par [4, 5, 6] [.call 88 none [.var 1], .call 94 none [.var 0, .var 1], .lst []], .set (.v 2) (.dc (.var 9) (.var 10) [9, 10] (.t [.v 9, .v 10]) (.its (.var 5)) []), .for (.v 3) (.its (.lc (.var 8) [8] (.v 8) (.rng (.int 0) (.var 4) 1) [.cmp .nin (.var 8) (.var 2)])) [.set (.v 7) (.lc (.blt .int [.cmp .eq (.var 8) (.var 3)]) [8] (.v 8) (.rng (.int 0) (.var 4) 1) []), .for (.t [.v 9, .v 10]) (.its (.var 5)) [.seti 7 (.var 9) (.bin .mod (.blt .int [.neg (.idx (.var 10) (.var 3))]) (.var 0))], .ex (.app 6 (.var 7))], .ret (.blt .tuple [.lc (.var 10) [9, 10] (.t [.v 9, .v 10]) (.its (.call 94 none [.var 0, .var 6])) []])]⟩
def fn_97 : Fn := ⟨2, 2, false, [.ex (.call 87 none [.var 0, .var 1]), .ret (.call 96 none [.var 0, .var 1])]⟩
def fn_98 : Fn := ⟨2, 2, false, [.ite (.cmp .ne (.call 88 none [.var 0]) (.blt .len [.var 1])) [.nvr] []]⟩
def fn_99 : Fn := ⟨2, 3, false, [.ret (.lc (.idx (.var 2) (.var 1)) [2] (.v 2) (.its (.var 0)) [])]⟩
def fn_100 : Fn := ⟨3, 5, false, [.ret (.bin .mod (.blt .int [.blt .sum [.lc (.bin .mul (.var 3) (.var 4)) [3, 4] (.t [.v 3, .v 4]) (.zip (.var 1) (.var 2)) []]]) (.var 0))]⟩
def fn_101 : Fn := ⟨3, 7, false, [.set (.v 3) (.lc (.call 99 none [.var 2, .var 4]) [4] (.v 4) (.rng (.int 0) (.call 88 none [.var 2]) 1) []), .ret (.blt .tuple [.lc (.blt .tuple [.lc (.call 100 none [.var 0, .var 5, .var 6]) [6] (.v 6) (.its (.var 3)) []]) [5] (.v 5) (.its (.var 1)) []])]⟩
def fn_102 : Fn := ⟨3, 3, false, [.ex (.call 87 none [.var 0, .var 1]), .ex (.call 87 none [.var 0, .var 2]), .ex (.call 98 none [.var 1, .var 2]), .ret (.call 101 none [.var 0, .var 1, .var 2])]⟩
def fn_103 : Fn := ⟨4, 12, true, [.set (.v 4) (.lst []), .for (.v 5) (.rng (.int 0) (.var 2) 1) [.set (.v 6) (.call 36 (some 0) [.var 1, .var 3]), .ite (.and (.cmp .gt (.blt .len [.var 4]) (.int 1)) (.cmp .eq (.call 1 (some 0) [.int 3]) (.int 0))) [.set (.t [.v 7, .v 8, .v 9]) (.tup [.callL 2 0 [.var 4], .callL 2 0 [.var 4], .call 1 (some 0) [.var 1]]), .set (.v 6) (.blt .tuple [.lc (.bin .mod (.blt .int [.bin .add (.var 10) (.bin .mul (.var 9) (.var 11))]) (.var 1)) [10, 11] (.t [.v 10, .v 11]) (.zip (.var 7) (.var 8)) []])] [], .ex (.app 4 (.var 6))], .ret (.blt .tuple [.var 4])]⟩
def fn_104 : Fn := ⟨1, 3, false, [.ret (.blt .tuple [.lc (.blt .tuple [.lc (.idx (.var 2) (.var 1)) [2] (.v 2) (.its (.var 0)) []]) [1] (.v 1) (.rng (.int 0) (.ife (.cmp .gt (.blt .len [.var 0]) (.int 0)) (.blt .len [.idx (.var 0) (.int 0)]) (.int 0)) 1) []])]⟩
def fn_105 : Fn := ⟨3, 9, false, [.par [4, 5] [.lst [], .call 104 none [.var 2]], .for (.v 3) (.its (.var 1)) [.ex (.app 4 (.blt .tuple [.lc (.bin .mod (.blt .int [.blt .sum [.lc (.bin .mul (.var 7) (.var 8)) [7, 8] (.t [.v 7, .v 8]) (.zip (.var 3) (.var 6)) []]]) (.var 0)) [6] (.v 6) (.its (.var 5)) []]))], .ret (.blt .tuple [.var 4])]⟩
def fn_106 : Fn := ⟨2, 3, false, [.ret (.idx (.lc (.var 2) [2] (.v 2) (.rng (.int 1) (.var 0) 1) [.cmp .eq (.bin .mod (.blt .int [.bin .mul (.var 1) (.var 2)]) (.var 0)) (.int 1)]) (.int 0))]⟩
def fn_107 : Fn := ⟨4, 6, false, [.ret (.blt .tuple [.lc (.bin .mod (.blt .int [.bin .sub (.var 4) (.bin .mul (.idx (.var 1) (.var 3)) (.var 5))]) (.var 0)) [4, 5] (.t [.v 4, .v 5]) (.zip (.var 1) (.var 2)) []])]⟩
def fn_108 : Fn := ⟨2, 12, false, [.par [3, 4] [.lc (.blt .tuple [.var 8]) [8] (.v 8) (.its (.var 1)) [], .lst []], .for (.v 2) (.rng (.int 0) (.ife (.cmp .gt (.blt .len [.var 1]) (.int 0)) (.blt .len [.idx (.var 1) (.int 0)]) (.int 0)) 1) [.set (.v 5) (.lc (.var 9) [9, 8] (.t [.v 9, .v 8]) (.enm (.var 3)) [.cmp .ne (.idx (.var 8) (.var 2)) (.int 0)]), .ite (.cmp .ne (.var 5) (.lst [])) [.set (.v 6) (.pop 3 (some (.idx (.var 5) (.int 0)))), .set (.v 7) (.call 106 none [.var 0, .idx (.var 6) (.var 2)]), .set (.v 6) (.blt .tuple [.lc (.bin .mod (.blt .int [.bin .mul (.var 7) (.var 10)]) (.var 0)) [10] (.v 10) (.its (.var 6)) []]), .set (.v 3) (.lc (.call 107 none [.var 0, .var 8, .var 6, .var 2]) [8] (.v 8) (.its (.var 3)) []), .set (.v 4) (.bin .add (.lc (.tup [.var 11, .call 107 none [.var 0, .var 8, .var 6, .var 2]]) [11, 8] (.t [.v 11, .v 8]) (.its (.var 4)) []) (.lst [.tup [.var 2, .var 6]]))] []], .ret (.var 4)]⟩
def fn_109 : Fn := ⟨1, 14, true, [.set (.t [.v 6, .v 7, .v 8]) (.tup [.call 2 (some 0) [.lst [.int 2, .int 2, .int 3, .int 5, .int 7, .int 13]], .call 1 (some 0) [.int 7], .call 1 (some 0) [.int 7]]), .set (.v 1) (.call 103 (some 0) [.var 6, .var 7, .var 8]), .set (.v 2) (.blt .tuple [.lc (.var 5) [10, 5] (.t [.v 10, .v 5]) (.its (.call 108 none [.var 6, .var 1])) []]), .ite (.or (.cmp .ne (.call 95 none [.var 6, .var 1]) (.var 2)) (.or (.cmp .ne (.call 92 none [.var 6, .var 1]) (.blt .len [.var 2])) (.cmp .ne (.call 95 none [.var 6, .var 2]) (.var 2)))) [.ret (.bl false)] [], .set (.v 3) (.call 103 (some 0) [.var 6, .bin .add (.int 1) (.call 1 (some 0) [.int 4]), .var 7]), .ite (.and (.cmp .ne (.call 102 none [.var 6, .var 3, .var 1]) (.call 105 none [.var 6, .var 3, .var 1])) (.cmp .gt (.var 7) (.int 0))) [.ret (.bl false)] [], .ite (.cmp .gt (.var 7) (.int 0)) [.set (.v 9) (.call 105 none [.var 6, .var 3, .var 1]), .ite (.or (.cmp .gt (.call 92 none [.var 6, .var 9]) (.blt .len [.var 2])) (.cmp .ne (.call 92 none [.var 6, .bin .add (.var 1) (.var 9)]) (.blt .len [.var 2]))) [.ret (.bl false)] [], .ite (.or (.cmp .ne (.call 95 none [.var 6, .bin .add (.var 9) (.var 1)]) (.var 2)) (.cmp .ne (.call 92 none [.var 6, .call 104 none [.var 1]]) (.blt .len [.var 2]))) [.ret (.bl false)] []] [], .set (.v 4) (.call 97 none [.var 6, .var 1]), .ite (.or (.cmp .ne (.blt .len [.var 4]) (.bin .sub (.ife (.cmp .gt (.var 7) (.int 0)) (.var 8) (.int 0)) (.blt .len [.var 2]))) (.cmp .ne (.call 95 none [.var 6, .var 4]) (.var 4))) [.ret (.bl false)] [], .for (.v 5) (.its (.var 1)) [.ite (.cmp .ne (.lc (.var 11) [11] (.v 11) (.its (.var 4)) [.cmp .ne (.bin .mod (.blt .int [.blt .sum [.lc (.bin .mul (.var 12) (.var 13)) [12, 13] (.t [.v 12, .v 13]) (.zip (.var 5) (.var 11)) []]]) (.var 6)) (.int 0)]) (.lst [])) [.ret (.bl false)] []], .ret (.bl true)]⟩
def fn_110 : Fn := ⟨1, 8, false, [.for (.v 1) (.rng (.int 0) (.blt .max [.int 1, .blt .min [.int 3, .blt .len [.var 0]]]) 1) [.set (.v 4) (.call 0 none [.var 0, .var 1]), .for (.v 5) (.rng (.int 0) (.int 8) 1) [.ite (.not (.call 109 (some 4) [])) [.ret (.bl false)] []]], .set (.v 2) (.lst [.call 92 none [.int 3, .tup [.tup [.int 1, .int 2], .tup [.int 2, .int 1]]], .call 95 none [.int 3, .tup [.tup [.int 0, .int 2, .int 1], .tup [.int 1, .int 1, .int 1], .tup [.int 1, .int 0, .int 2]]], .call 97 none [.int 3, .tup [.tup [.int 1, .int 1, .int 1]]]]), .ite (.cmp .ne (.var 2) (.lst [.int 1, .tup [.tup [.int 1, .int 0, .int 2], .tup [.int 0, .int 1, .int 2]], .tup [.tup [.int 1, .int 0, .int 2], .tup [.int 0, .int 1, .int 2]]])) [.ret (.bl false)] [], .ite (.cmp .ne (.call 102 none [.int 2, .tup [.tup [.int 1, .int 1], .tup [.int 0, .int 1]], .tup [.tup [.int 1], .tup [.int 1]]]) (.tup [.tup [.int 0], .tup [.int 1]])) [.ret (.bl false)] [], .set (.v 3) (.blt .tuple [.lc (.blt .tuple [.lc (.blt .int [.cmp .eq (.var 6) (.var 7)]) [7] (.v 7) (.rng (.int 0) (.int 60) 1) []]) [6] (.v 6) (.rng (.int 0) (.int 60) 1) []]), .ite (.or (.cmp .ne (.call 92 none [.int 13, .var 3]) (.int 60)) (.or (.cmp .ne (.call 97 none [.int 13, .var 3]) (.tup [])) (.cmp .ne (.call 95 none [.int 2, .tup [.tup [], .tup []]]) (.tup [])))) [.ret (.bl false)] [], .ret (.and (.cmp .eq (.call 97 none [.int 5, .tup [.tup [.int 0, .int 0]]]) (.tup [.tup [.int 1, .int 0], .tup [.int 0, .int 1]])) (.and (.cmp .eq (.call 92 none [.int 2, .tup []]) (.int 0)) (.cmp .eq (.call 97 none [.int 2, .tup []]) (.tup []))))]⟩
def Gt : List (Nat × Fn) := [(0, fn_0), (1, fn_1), (2, fn_2), (14, fn_14), (15, fn_15), (16, fn_16), (22, fn_22), (36, fn_36), (85, fn_85), (86, fn_86), (87, fn_87), (88, fn_88), (89, fn_89), (90, fn_90), (91, fn_91), (92, fn_92), (93, fn_93), (94, fn_94), (95, fn_95), (96, fn_96), (97, fn_97), (98, fn_98), (99, fn_99), (100, fn_100), (101, fn_101), (102, fn_102), (103, fn_103), (104, fn_104), (105, fn_105), (106, fn_106), (107, fn_107), (108, fn_108), (109, fn_109), (110, fn_110)]
def G : Nat → Option Fn := fun i => Gt.lookup i
def GKt : List (Nat × D) := [(1, .tup [.int 2, .int 3, .int 5, .int 7, .int 11, .int 13]), (2, .int 60), (4, .int 2)]
def GK : Nat → Option D := fun i => GKt.lookup i
end RT
namespace LawT
open RT
def law_n : List PySem.Str := [(PySem.Str.ofString "script"), (PySem.Str.ofString "spot"), (PySem.Str.ofString "told"), (PySem.Str.ofString "great"), (PySem.Str.ofString "spins"), (PySem.Str.ofString "turn"), (PySem.Str.ofString "at"), (PySem.Str.ofString "place")]
def txt : RT.Txt where
  fns := [(0, .g (PySem.Str.ofString "_law_spins"), fn_0, [(PySem.Str.ofString "script"), (PySem.Str.ofString "spot"), (PySem.Str.ofString "cell"), (PySem.Str.ofString "great")]),
    (1, .g (PySem.Str.ofString "_law_spin"), fn_1, [(PySem.Str.ofString "spins"), (PySem.Str.ofString "total"), (PySem.Str.ofString "one"), (PySem.Str.ofString "two"), (PySem.Str.ofString "found")]),
    (2, .g (PySem.Str.ofString "_law_among"), fn_2, [(PySem.Str.ofString "spins"), (PySem.Str.ofString "items")]),
    (14, .g (PySem.Str.ofString "is_whole"), fn_14, [(PySem.Str.ofString "value")]),
    (15, .g (PySem.Str.ofString "is_within"), fn_15, [(PySem.Str.ofString "value"), (PySem.Str.ofString "least"), (PySem.Str.ofString "most")]),
    (16, .g (PySem.Str.ofString "require_base"), fn_16, [(PySem.Str.ofString "value")]),
    (22, .g (PySem.Str.ofString "is_base"), fn_22, [(PySem.Str.ofString "q"), (PySem.Str.ofString "value")]),
    (36, .g (PySem.Str.ofString "_law_row"), fn_36, [(PySem.Str.ofString "spins"), (PySem.Str.ofString "q"), (PySem.Str.ofString "size"), (PySem.Str.ofString "turn")]),
    (85, .g (PySem.Str.ofString "are_even"), fn_85, [(PySem.Str.ofString "value"), (PySem.Str.ofString "row")]),
    (86, .g (PySem.Str.ofString "are_base_rows"), fn_86, [(PySem.Str.ofString "q"), (PySem.Str.ofString "value"), (PySem.Str.ofString "row"), (PySem.Str.ofString "number")]),
    (87, .g (PySem.Str.ofString "require_base_rows"), fn_87, [(PySem.Str.ofString "q"), (PySem.Str.ofString "rows")]),
    (88, .g (PySem.Str.ofString "columns_of"), fn_88, [(PySem.Str.ofString "rows")]),
    (89, .g (PySem.Str.ofString "inverse_of"), fn_89, [(PySem.Str.ofString "q"), (PySem.Str.ofString "number"), (PySem.Str.ofString "found"), (PySem.Str.ofString "turn")]),
    (90, .g (PySem.Str.ofString "cleared"), fn_90, [(PySem.Str.ofString "q"), (PySem.Str.ofString "row"), (PySem.Str.ofString "first"), (PySem.Str.ofString "column"), (PySem.Str.ofString "number"), (PySem.Str.ofString "a"), (PySem.Str.ofString "b")]),
    (91, .g (PySem.Str.ofString "rank_in"), fn_91, [(PySem.Str.ofString "q"), (PySem.Str.ofString "rows"), (PySem.Str.ofString "column"), (PySem.Str.ofString "left"), (PySem.Str.ofString "found"), (PySem.Str.ofString "spots"), (PySem.Str.ofString "first"), (PySem.Str.ofString "turn"), (PySem.Str.ofString "row"), (PySem.Str.ofString "at"), (PySem.Str.ofString "number")]),
    (92, .g (PySem.Str.ofString "base_rank"), fn_92, [(PySem.Str.ofString "q"), (PySem.Str.ofString "rows")]),
    (93, .g (PySem.Str.ofString "led_in"), fn_93, [(PySem.Str.ofString "q"), (PySem.Str.ofString "rows"), (PySem.Str.ofString "columns"), (PySem.Str.ofString "column"), (PySem.Str.ofString "left"), (PySem.Str.ofString "found"), (PySem.Str.ofString "spots"), (PySem.Str.ofString "first"), (PySem.Str.ofString "turn"), (PySem.Str.ofString "row"), (PySem.Str.ofString "at"), (PySem.Str.ofString "number"), (PySem.Str.ofString "lead")]),
    (94, .g (PySem.Str.ofString "echelon_in"), fn_94, [(PySem.Str.ofString "q"), (PySem.Str.ofString "rows"), (PySem.Str.ofString "lead"), (PySem.Str.ofString "row")]),
    (95, .g (PySem.Str.ofString "echelon"), fn_95, [(PySem.Str.ofString "q"), (PySem.Str.ofString "rows"), (PySem.Str.ofString "lead"), (PySem.Str.ofString "row")]),
    (96, .g (PySem.Str.ofString "kernel_in"), fn_96, [(PySem.Str.ofString "q"), (PySem.Str.ofString "rows"), (PySem.Str.ofString "at_leads"), (PySem.Str.ofString "free"), (PySem.Str.ofString "columns"), (PySem.Str.ofString "leads"), (PySem.Str.ofString "found"), (PySem.Str.ofString "told"), (PySem.Str.ofString "column"), (PySem.Str.ofString "lead"), (PySem.Str.ofString "row")]),
    (97, .g (PySem.Str.ofString "kernel"), fn_97, [(PySem.Str.ofString "q"), (PySem.Str.ofString "rows")]),
    (98, .g (PySem.Str.ofString "need_fit"), fn_98, [(PySem.Str.ofString "one"), (PySem.Str.ofString "other")]),
    (99, .g (PySem.Str.ofString "column_of"), fn_99, [(PySem.Str.ofString "rows"), (PySem.Str.ofString "at"), (PySem.Str.ofString "row")]),
    (100, .g (PySem.Str.ofString "base_dot"), fn_100, [(PySem.Str.ofString "q"), (PySem.Str.ofString "one"), (PySem.Str.ofString "other"), (PySem.Str.ofString "a"), (PySem.Str.ofString "b")]),
    (101, .g (PySem.Str.ofString "base_product_in"), fn_101, [(PySem.Str.ofString "q"), (PySem.Str.ofString "one"), (PySem.Str.ofString "other"), (PySem.Str.ofString "columns"), (PySem.Str.ofString "at"), (PySem.Str.ofString "row"), (PySem.Str.ofString "column")]),
    (102, .g (PySem.Str.ofString "base_product"), fn_102, [(PySem.Str.ofString "q"), (PySem.Str.ofString "one"), (PySem.Str.ofString "other")]),
    (103, .g (PySem.Str.ofString "_law_rows"), fn_103, [(PySem.Str.ofString "spins"), (PySem.Str.ofString "q"), (PySem.Str.ofString "many"), (PySem.Str.ofString "size"), (PySem.Str.ofString "found"), (PySem.Str.ofString "turn"), (PySem.Str.ofString "row"), (PySem.Str.ofString "one"), (PySem.Str.ofString "other"), (PySem.Str.ofString "number"), (PySem.Str.ofString "a"), (PySem.Str.ofString "b")]),
    (104, .g (PySem.Str.ofString "_law_columns"), fn_104, [(PySem.Str.ofString "rows"), (PySem.Str.ofString "at"), (PySem.Str.ofString "row")]),
    (105, .g (PySem.Str.ofString "_law_base_product"), fn_105, [(PySem.Str.ofString "q"), (PySem.Str.ofString "one"), (PySem.Str.ofString "other"), (PySem.Str.ofString "row"), (PySem.Str.ofString "found"), (PySem.Str.ofString "columns"), (PySem.Str.ofString "column"), (PySem.Str.ofString "a"), (PySem.Str.ofString "b")]),
    (106, .g (PySem.Str.ofString "_law_turned_to"), fn_106, [(PySem.Str.ofString "q"), (PySem.Str.ofString "number"), (PySem.Str.ofString "other")]),
    (107, .g (PySem.Str.ofString "_law_cleared"), fn_107, [(PySem.Str.ofString "q"), (PySem.Str.ofString "row"), (PySem.Str.ofString "first"), (PySem.Str.ofString "column"), (PySem.Str.ofString "a"), (PySem.Str.ofString "b")]),
    (108, .g (PySem.Str.ofString "_law_leads"), fn_108, [(PySem.Str.ofString "q"), (PySem.Str.ofString "rows"), (PySem.Str.ofString "column"), (PySem.Str.ofString "left"), (PySem.Str.ofString "found"), (PySem.Str.ofString "spots"), (PySem.Str.ofString "first"), (PySem.Str.ofString "turn"), (PySem.Str.ofString "row"), (PySem.Str.ofString "at"), (PySem.Str.ofString "number"), (PySem.Str.ofString "lead")]),
    (109, .g (PySem.Str.ofString "_law_right"), fn_109, [(PySem.Str.ofString "spins"), (PySem.Str.ofString "rows"), (PySem.Str.ofString "due"), (PySem.Str.ofString "more"), (PySem.Str.ofString "lost"), (PySem.Str.ofString "row"), (PySem.Str.ofString "q"), (PySem.Str.ofString "many"), (PySem.Str.ofString "size"), (PySem.Str.ofString "mixed"), (PySem.Str.ofString "lead"), (PySem.Str.ofString "one"), (PySem.Str.ofString "a"), (PySem.Str.ofString "b")]),
    (110, .g (PySem.Str.ofString "law"), fn_110, law_n)]
  cls := []
  glb := [(1, (PySem.Str.ofString "PRIMES"), .tI [2, 3, 5, 7, 11, 13]), (2, (PySem.Str.ofString "MOST_SIZE"), .int 60), (4, (PySem.Str.ofString "PAIR"), .int 2)]
  fld := []
  prp := []
end LawT
namespace Hd
open PySem PySem.Spec PyProof.Rows L2
def topS (i : Nat) : Stmt := PySem.Challenge.pw_rowsthrough_k06_whole_ranks_echelons_and.main.body.getD i (.Pass ⟨0, 0, 0, 0⟩)
def lawS : Stmt := topS 46
def names : List PySem.Str := (["RowError", "InvalidMatrix", "InvalidOperation", "InvalidNumber", "is_whole", "is_within", "PRIMES", "is_base", "require_base", "columns_of", "column_of", "MOST_SIZE", "PAIR", "inverse_of", "cleared", "led_in", "echelon_in", "rank_in", "kernel_in", "base_dot", "base_product_in", "are_even", "are_base_rows", "require_base_rows", "need_fit", "base_rank", "echelon", "kernel", "base_product", "_law_spins"] : List PySem.Str) ++ (["_law_spin", "_law_among", "_law_row", "_law_rows", "_law_turned_to", "_law_cleared", "_law_leads", "_law_columns", "_law_base_product", "_law_right"] : List PySem.Str)
abbrev R : PySem.W.OpenRow := PySem.W.OpenLaw.row PySem.Challenge.rw_rowsthrough_k06_whole_ranks_echelons_and
def chk (K : PySem.W.Frag) : Bool := LawT.txt.ok K
def obsC (g : Addr → Option Obj) : Bool := chk (He.frG g (He.asD g 5))
def hk : PySem.W.Hook where
  α := Bool
  obs := fun s => obsC s.heap.get?
  val := fun _ => true
  says := fun _ h => ∃ K : PySem.W.Frag, K.In h ∧ chk K = true
  of := fun _ _ e => ⟨_, He.frG_in, e⟩
  keeps := fun _ _ _ ⟨K, hK, c⟩ k => ⟨K, PySem.W.Frag.In.keeps hK k, c⟩
def ob (s : PySem.W.SharedT) : Bool := obsC (HandSHeadRun.getT s)
theorem obEq (s : PySem.W.SharedT) : ob s = hk.obs s.abs := by
  have e : HandSHeadRun.getT s = s.abs.heap.get? := funext (HandSHeadRun.getT_eq s)
  show obsC _ = obsC _
  rw [e]
theorem run (w : World) : HandSHeadRun.RunEq R (PySem.W.view R.prog [46]) hk ob 15000 names w := by
  intro os
  kernel_rfl
end Hd


set_option Elab.async false
set_option linter.all false
/-! AlgS: rows of ints by the order of tuples, and what sorting tells. -/
namespace RT
/-- one tuple of ints before another -/
def lexL : List Int → List Int → Bool
  | [], [] => false
  | [], _ :: _ => true
  | _ :: _, [] => false
  | x :: a, y :: b => if x = y then lexL a b else decide (x < y)
theorem lexL_asym : ∀ a b : List Int, lexL a b = true → lexL b a = false
  | [], [], h => rfl
  | [], _ :: _, h => rfl
  | _ :: _, [], h => by simp [lexL] at h
  | x :: a, y :: b, h => by
    simp only [lexL] at h ⊢
    by_cases e : x = y
    · rw [if_pos e] at h; rw [if_pos e.symm]; exact lexL_asym a b h
    · rw [if_neg e] at h
      have h : x < y := by simpa using h
      rw [if_neg (by omega), decide_eq_false (by omega)]
theorem lexL_neg : ∀ a b c : List Int, lexL a b = false → lexL b c = false → lexL a c = false
  | [], [], c, h, g => g
  | [], _ :: _, c, h, g => by simp [lexL] at h
  | _ :: _, [], [], h, g => rfl
  | _ :: _, [], _ :: _, h, g => by simp [lexL] at g
  | _ :: _, _ :: _, [], h, g => rfl
  | x :: a, y :: b, z :: c, h, g => by
    simp only [lexL] at h g ⊢
    by_cases e : x = y <;> by_cases f : y = z
    · subst e f; simp only [if_true] at h g ⊢; exact lexL_neg a b c h g
    · rw [if_neg f] at g
      rw [if_neg (by omega)]
      subst e; exact g
    · rw [if_neg e] at h
      rw [if_neg (by omega)]
      subst f; exact h
    · rw [if_neg e] at h; rw [if_neg f] at g
      have h : ¬ x < y := by simpa using h
      have g : ¬ y < z := by simpa using g
      rw [if_neg (by omega), decide_eq_false (by omega)]
theorem lexL_eq : ∀ a b : List Int, lexL a b = false → lexL b a = false → a = b
  | [], [], h, g => rfl
  | [], _ :: _, h, g => by simp [lexL] at h
  | _ :: _, [], h, g => by simp [lexL] at g
  | x :: a, y :: b, h, g => by
    simp only [lexL] at h g
    by_cases e : x = y
    · rw [if_pos e] at h; rw [if_pos e.symm] at g
      rw [e, lexL_eq a b h g]
    · rw [if_neg e] at h; rw [if_neg (fun h => e h.symm)] at g
      have h : ¬ x < y := by simpa using h
      have g : ¬ y < x := by simpa using g
      omega
section
variable {α : Type} (lt : α → α → Bool)
def insS (x : α) : List α → List α
  | [] => [x]
  | y :: r => if lt y x then y :: insS x r else x :: y :: r
def sortS : List α → List α
  | [] => []
  | x :: r => insS lt x (sortS r)
theorem insS_perm (x : α) : ∀ l : List α, (insS lt x l).Perm (x :: l)
  | [] => List.Perm.refl _
  | y :: r => by
    unfold insS
    split
    · exact ((insS_perm x r).cons y).trans (List.Perm.swap x y r)
    · exact List.Perm.refl _
theorem sortS_perm : ∀ l : List α, (sortS lt l).Perm l
  | [] => List.Perm.refl _
  | x :: r => (insS_perm lt x _).trans ((sortS_perm r).cons x)
abbrev Sd (l : List α) : Prop := l.Pairwise fun a b => lt b a = false
theorem insS_sd (as : ∀ a b, lt a b = true → lt b a = false) (ne : ∀ a b c, lt a b = false → lt b c = false → lt a c = false) (x : α) : ∀ l : List α, Sd lt l → Sd lt (insS lt x l)
  | [], _ => List.pairwise_singleton _ _
  | y :: r, h => by
    unfold insS
    obtain ⟨h1, h2⟩ := List.pairwise_cons.mp h
    by_cases g : lt y x = true
    · rw [if_pos g]
      refine List.pairwise_cons.mpr ⟨fun z hz => ?_, insS_sd as ne x r h2⟩
      rcases List.mem_cons.mp ((insS_perm lt x r).mem_iff.mp hz) with e | e
      · rw [e]; exact as _ _ g
      · exact h1 z e
    · have g : lt y x = false := by simpa using g
      rw [if_neg (by rw [g]; decide)]
      refine List.pairwise_cons.mpr ⟨fun z hz => ?_, h⟩
      rcases List.mem_cons.mp hz with e | e
      · rw [e]; exact g
      · exact ne _ _ _ (h1 z e) g
theorem sortS_sd (as : ∀ a b, lt a b = true → lt b a = false) (ne : ∀ a b c, lt a b = false → lt b c = false → lt a c = false) : ∀ l : List α, Sd lt (sortS lt l)
  | [] => List.Pairwise.nil
  | x :: r => insS_sd lt as ne x _ (sortS_sd as ne r)
/-- a sorted row is the only one of its kind -/
theorem sd_uniq (eq : ∀ a b, lt a b = false → lt b a = false → a = b) : ∀ {l m : List α}, Sd lt l → Sd lt m → l.Perm m → l = m
  | [], m, _, _, p => by rw [List.nil_perm.mp p]
  | x :: l, [], _, _, p => by exact absurd p.length_eq (by simp)
  | x :: l, y :: m, h, g, p => by
    obtain ⟨h1, h2⟩ := List.pairwise_cons.mp h
    obtain ⟨g1, g2⟩ := List.pairwise_cons.mp g
    have e : x = y := by
      rcases List.mem_cons.mp (p.mem_iff.mp List.mem_cons_self) with e | e
      · exact e
      · rcases List.mem_cons.mp (p.mem_iff.mpr List.mem_cons_self) with f | f
        · exact f.symm
        · exact eq _ _ (g1 x e |> fun a => a) (h1 y f) 
    subst e
    rw [sd_uniq eq h2 g2 (List.perm_cons x |>.mp p)]
theorem sort_uniq (as : ∀ a b, lt a b = true → lt b a = false) (ne : ∀ a b c, lt a b = false → lt b c = false → lt a c = false) (eq : ∀ a b, lt a b = false → lt b a = false → a = b) {l m : List α} (h : Sd lt m) (p : m.Perm l) : m = sortS lt l :=
  sd_uniq lt eq h (sortS_sd lt as ne l) (p.trans (sortS_perm lt l).symm)
end
end RT

set_option Elab.async false
set_option linter.all false
/-! CoreA: a small language over plain data, with its evaluator. Lists are values; a slot of a frame says whether its list is its own. -/
namespace RT
open PySem

/-- a value: frozen, fresh, or what slot i holds -/
inductive VL where
  | fz (d : D) | fr (d : D) | pk (i : Nat)
@[simp] def R.bind {α β : Type} : R α → (α → Nv → R β) → R β
  | .ok a e, f => f a e
  | .exc c v e, _ => .exc c v e
  | .bad, _ => .bad
inductive CR where
  | ok (fr : Bool) (r : D) (io : D) | exc (c : Nat) (v : D) (io : D) | bad
abbrev Cal := Nat → List D → CR

abbrev lim : Nat := 16777216

/-! ### data -/
mutual
def deq : D → D → Bool
  | .non, .non => true
  | .bl a, .bl b => a == b
  | .bl a, .int j => (if a then 1 else 0) == j
  | .int i, .bl b => i == (if b then 1 else 0)
  | .int i, .int j => i == j
  | .str x, .str y => x == y
  | .lst xs, .lst ys => deqL xs ys
  | .tup xs, .tup ys => deqL xs ys
  | _, _ => false
def deqL : List D → List D → Bool
  | [], [] => true
  | x :: xs, y :: ys => deq x y && deqL xs ys
  | _, _ => false
end
def okS (x : Str) : Bool := x.cps.all fun c => decide (c < 1114112)
/-- none, bools, ints, texts, and lists and tuples of such, so deep -/
def plainD : Nat → D → Bool
  | _, .non => true
  | _, .bl _ => true
  | _, .int _ => true
  | _, .str x => okS x
  | n + 1, .tup xs => xs.all (plainD n)
  | n + 1, .lst xs => xs.all (plainD n)
  | _, _ => false
abbrev deep : Nat := 12

def lkv (e : Nv) : VL → Option D
  | .fz d => some d
  | .fr d => some d
  | .pk i => match e[i]? with
    | some (some (_, d)) => some d
    | _ => none
def VL.set (v : VL) : VL := match v with
  | .fr d => .fz d
  | v => v
/-- frozen for good -/
def fzv (e : Nv) : VL → Option (D × Nv)
  | .fz d => some (d, e)
  | .fr d => some (d, e)
  | .pk i => match e[i]? with
    | some (some (.ow, d)) => some (d, e.set i (some (.sh, d)))
    | some (some (.sh, d)) => some (d, e)
    | _ => none
def fzL : Nv → List VL → Option (List D × Nv)
  | e, [] => some ([], e)
  | e, v :: vs => match fzv e v with
    | some (d, e1) => (match fzL e1 vs with
      | some (ds, e2) => some (d :: ds, e2)
      | none => none)
    | none => none

def repI (k : Int) (xs : List D) : List D := (List.replicate k.toNat xs).flatten
def i64 (i : Int) : Bool := decide (-(2 ^ 64) < i) && decide (i < 2 ^ 64)
def binop : Bop → D → D → Option (Bool × D)
  | .add, .int i, .int j => some (false, .int (i + j))
  | .add, .str x, .str y => if x.length + y.length ≤ lim then some (false, .str (x ++ y)) else none
  | .add, .tup xs, .tup ys => if xs.length + ys.length ≤ lim then some (false, .tup (xs ++ ys)) else none
  | .add, .lst xs, .lst ys => if xs.length + ys.length ≤ lim then some (true, .lst (xs ++ ys)) else none
  | .sub, .int i, .int j => some (false, .int (i - j))
  | .mul, .int i, .int j => if i64 i || i64 j then some (false, .int (i * j)) else none
  | .mul, .tup xs, .int k => if decide (k < 2 ^ 63) && decide (-(2 ^ 63) ≤ k) && decide (xs.length * k.toNat ≤ lim) then some (false, .tup (repI k xs)) else none
  | .mul, .lst xs, .int k => if decide (k < 2 ^ 63) && decide (-(2 ^ 63) ≤ k) && decide (xs.length * k.toNat ≤ lim) then some (true, .lst (repI k xs)) else none
  | .mod, .int i, .int j => if 0 < j then some (false, .int (i % j)) else none
  | .div, .int i, .int j => if 0 < j ∧ j < 1073741824 then some (false, .int (i / j)) else none
  | .pow, .int i, .int j => if 0 ≤ j ∧ (i.natAbs.log2 + 1) * j.toNat ≤ 134217728 then some (false, .int (i ^ j.toNat)) else none
  | _, _, _ => none
def keyD : D → Option L2.Key
  | .int i => some (.inl i)
  | .str x => some (.inr x)
  | _ => none
def dKey : L2.Key → D
  | .inl i => .int i
  | .inr x => .str x
def getK (kvs : List (L2.Key × D)) (k : L2.Key) : Option D := (kvs.find? fun kv => decide (kv.1 = k)).map (·.2)
def putK (kvs : List (L2.Key × D)) (k : L2.Key) (v : D) : List (L2.Key × D) :=
  if (kvs.any fun kv => decide (kv.1 = k)) = true then kvs.map (fun kv => if kv.1 = k then (kv.1, v) else kv) else kvs ++ [(k, v)]
def dropK (kvs : List (L2.Key × D)) (k : L2.Key) : List (L2.Key × D) := kvs.filter fun p => decide (p.1 ≠ k)
def lexD : List D → List D → Option Bool
  | [], [] => some false
  | [], _ :: _ => some true
  | _ :: _, [] => some false
  | .int i :: xs, .int j :: ys => if i = j then lexD xs ys else some (decide (i < j))
  | _, _ => none
def allI (xs : List D) : Bool := xs.all fun d => match d with | .int _ => true | _ => false
def inop (a b : D) : Option Bool := match b with
  | .lst xs => if plainD deep a && xs.all (plainD deep) then some (xs.any fun y => deq y a) else none
  | .tup xs => if plainD deep a && xs.all (plainD deep) then some (xs.any fun y => deq y a) else none
  | .dct kvs => (keyD a).map fun k => (getK kvs k).isSome
  | .str y => (match a with
    | .str x => some (!(Builtin.Str.occurrences y x 0 y.length 1).isEmpty)
    | _ => none)
  | _ => none
def isNon : D → Bool
  | .non => true
  | _ => false
def cmpop : Cop → D → D → Option Bool
  | .eq, a, b => if plainD deep a && plainD deep b then some (deq a b) else none
  | .ne, a, b => if plainD deep a && plainD deep b then some (!deq a b) else none
  | .lt, .int i, .int j => some (decide (i < j))
  | .le, .int i, .int j => some (decide (i ≤ j))
  | .gt, .int i, .int j => some (decide (j < i))
  | .ge, .int i, .int j => some (decide (j ≤ i))
  | .lt, .tup xs, .tup ys => if allI xs && allI ys then lexD xs ys else none
  | .isn, a, .non => some (isNon a)
  | .nisn, a, .non => some (!isNon a)
  | .inn, a, b => inop a b
  | .nin, a, b => (inop a b).map (!·)
  | _, _, _ => none
def seqD : D → Option (List D)
  | .lst xs => some xs
  | .tup xs => some xs
  | _ => none
def atD (xs : List D) (i : Int) : Option D := if 0 ≤ i then (if i < xs.length then xs[i.toNat]? else none) else if -(xs.length : Int) ≤ i then xs[(i + xs.length).toNat]? else none
def ixop (a b : D) : Option D := match a, b with
  | .lst xs, .int i => atD xs i
  | .sls xs, .int i => atD xs i
  | .tup xs, .int i => atD xs i
  | .dct kvs, k => (keyD k).bind fun k => getK kvs k
  | .str z, .int i => if z.length ≤ lim then (atD (z.cps.toList.map fun c => .str ⟨#[c]⟩) i) else none
  | _, _ => none
/-- an end of a slice -/
def clipI (n d : Nat) : Option Int → Nat
  | none => d
  | some v => if v < 0 then (v + n).toNat else min v.toNat n
def cutD (xs : List D) (lo hi : Option Int) : List D := (xs.drop (clipI xs.length 0 lo)).take (clipI xs.length xs.length hi - clipI xs.length 0 lo)
def slop (a : D) (lo hi : Option Int) : Option (Bool × D) := match a with
  | .lst xs => some (true, .lst (cutD xs lo hi))
  | .tup xs => some (false, .tup (cutD xs lo hi))
  | _ => none
/-- a reversal -/
def revop : D → Option (Bool × D)
  | .lst xs => some (true, .lst xs.reverse)
  | .tup xs => some (false, .tup xs.reverse)
  | _ => none
def isiD : Ty → D → Option Bool
  | .int, .int _ => some true
  | .int, .bl _ => some true
  | .bool, .bl _ => some true
  | .str, .str _ => some true
  | .tuple, .tup _ => some true
  | .list, .lst _ => some true
  | .dict, .dct _ => some true
  | .cls c, .obj c' _ => some (decide (c = c'))
  | _, .fn _ => none
  | _, .ty _ => none
  | _, .clo _ _ => none
  | _, .exv _ _ => none
  | _, .sls _ => none
  | _, _ => some false
def boolsD : List D → Option (List Bool)
  | [] => some []
  | .bl b :: r => (boolsD r).map (b :: ·)
  | _ :: _ => none
def intsD : List D → Option (List Int)
  | [] => some []
  | .int i :: r => (intsD r).map (i :: ·)
  | _ :: _ => none
def maxI : Int → List Int → Int
  | m, [] => m
  | m, i :: r => maxI (if m < i then i else m) r
def minI : Int → List Int → Int
  | m, [] => m
  | m, i :: r => minI (if i < m then i else m) r
/-- tuples of ints, none of them empty -/
def rowsD : List D → Option (List (List Int))
  | [] => some []
  | .tup ds :: r => (match intsD ds with
    | some (i :: is) => (rowsD r).map ((i :: is) :: ·)
    | _ => none)
  | _ :: _ => none
def bltop : Blt → List D → Option (Bool × D)
  | .len, [.lst xs] => some (false, .int xs.length)
  | .len, [.sls xs] => some (false, .int xs.length)
  | .len, [.tup xs] => some (false, .int xs.length)
  | .len, [.dct kvs] => some (false, .int kvs.length)
  | .len, [.str z] => if z.length ≤ lim then some (false, .int z.length) else none
  | .tuple, [.lst xs] => some (false, .tup xs)
  | .tuple, [.tup xs] => some (false, .tup xs)
  | .list, [.lst xs] => some (true, .lst xs)
  | .list, [.tup xs] => some (true, .lst xs)
  | .int, [.int i] => some (false, .int i)
  | .int, [.bl b] => some (false, .int (if b then 1 else 0))
  | .all, [.lst xs] => (boolsD xs).map fun bs => (false, .bl (bs.all id))
  | .any, [.lst xs] => (boolsD xs).map fun bs => (false, .bl (bs.any id))
  | .max, [.int i, .int j] => some (false, .int (if j > i then j else i))
  | .min, [.int i, .int j] => some (false, .int (if j < i then j else i))
  | .abs, [.int i] => some (false, .int (if i < 0 then -i else i))
  | .sum, [.lst xs] => (intsD xs).map fun is => (false, .int is.sum)
  | .maxl, [.lst xs] => (match intsD xs with
    | some (i :: r) => some (false, .int (maxI i r))
    | _ => none)
  | .minl, [.lst xs] => (match intsD xs with
    | some (i :: r) => some (false, .int (minI i r))
    | _ => none)
  | .divmod, [.int i, .int j] => if 0 < j ∧ j < 1073741824 then some (false, .tup [.int (i / j), .int (i % j)]) else none
  | .sorted, [.lst xs] => (match intsD xs with
    | some is => some (true, .lst ((sortS (fun a b => decide (a < b)) is).map .int))
    | none => (rowsD xs).map fun rs => (true, .lst ((sortS lexL rs).map fun r => .tup (r.map .int))))
  | .isi t, [d] => (isiD t d).map fun b => (false, .bl b)
  | _, _ => none
def rngL (lo st : Int) : Nat → List D
  | 0 => []
  | n + 1 => .int lo :: rngL (lo + st) st n
def enmL : Nat → List D → List D
  | _, [] => []
  | i, x :: r => .tup [.int i, x] :: enmL (i + 1) r
def zipL : List D → List D → List D
  | x :: xs, y :: ys => .tup [x, y] :: zipL xs ys
  | _, _ => []
def itsD : D → Option (List D)
  | .lst xs => some xs
  | .tup xs => some xs
  | .str z => some (z.cps.toList.map fun c => .str ⟨#[c]⟩)
  | _ => none

/-! ### the language -/
/-! ### frames -/
/-- no other slot is handed in -/
def ioOnly (e : Nv) (i : Nat) : Bool := (List.range e.length).all fun j => j == i || (match e[j]? with
  | some (some (.io, _)) => false
  | _ => true)
def setT : T → D → Nv → Option Nv
  | .v i, d, e => match e[i]? with
    | some (some (.io, _)) => none
    | some (some (.lk, _)) => none
    | some _ => some (e.set i (some (.sh, d)))
    | none => none
  | .fld i c' k, d, e => match e[i]? with
    | some (some (.io, .obj c fs)) => if (k < 1000 ∧ c' = c) ∧ ioOnly e i = true then some (e.set i (some (.io, .obj c ((fs ++ List.replicate (k + 1 - fs.length) none).set k (some d))))) else none
    | _ => none
  | .t ts, .tup ds, e => if ts.length = ds.length then setTs ts ds e else none
  | .t _, _, _ => none
where
  setTs : List T → List D → Nv → Option Nv
  | [], [], e => some e
  | t :: ts, d :: ds, e => (match setT t d e with
    | some e1 => setTs ts ds e1
    | none => none)
  | _, _, _ => none
/-- a value to a name: a fresh list is its own -/
def setV (i : Nat) (v : VL) (e : Nv) : Option Nv := match v with
  | .fr d => (match e[i]? with
    | some (some (.io, _)) => none
    | some (some (.lk, _)) => none
    | some _ => some (e.set i (some (.ow, d)))
    | none => none)
  | v => (match fzv e v with
    | some (d, e1) => setT (.v i) d e1
    | none => none)
def wipeN : Nv → List Nat → Nv
  | e, [] => e
  | e, v :: vs => (wipeN e vs).set v none
/-- none of these slots holds a list of its own -/
def noOwn (e : Nv) (vs : List Nat) : Bool := vs.all fun i => match e[i]? with
  | some none => true
  | some (some (.sh, _)) => true
  | _ => false
/-- behind a block: its own slots as they were -/
def backN (e e2 : Nv) : List Nat → Nv
  | [] => e2
  | v :: vs => (backN e e2 vs).set v ((e[v]?).getD none)
def lockV (e : Nv) : VL → Nv × List Nat
  | .pk i => (match e[i]? with
    | some (some (.ow, d)) => (e.set i (some (.lk, d)), [i])
    | _ => (e, []))
  | _ => (e, [])
/-- what is walked must not be changed from outside -/
def walkD (f : D → Option (List D)) (e : Nv) : VL → Option (List D)
  | .pk i => (match e[i]? with
    | some (some (.io, _)) => none
    | some (some (_, d)) => f d
    | _ => none)
  | .fz d => f d
  | .fr d => f d
def unlock (e : Nv) : List Nat → Option Nv
  | [] => some e
  | i :: r => (match e[i]? with
    | some (some (.lk, d)) => unlock (e.set i (some (.ow, d))) r
    | _ => none)
def ownB (e : Nv) (i : Nat) : Option (Fl × D) := match e[i]? with
  | some (some (.ow, d)) => some (.ow, d)
  | some (some (.io, d)) => some (.io, d)
  | _ => none
/-- slot i has a list of its own -/
def isOwL (e : Nv) (i : Nat) : Bool := match e[i]? with
  | some (some (.ow, .lst _)) => true
  | _ => false
def isDct (e : Nv) (v : VL) : Bool := match lkv e v with
  | some (.dct _) => true
  | _ => false
def boolV (e : Nv) (v : VL) : Option Bool := match lkv e v with
  | some (.bl b) => some b
  | _ => none
def intV (e : Nv) (v : VL) : Option Int := match lkv e v with
  | some (.int i) => some i
  | _ => none
/-- what may be lent to a call: own lists (but slot i's), and what is frozen -/
def lnV (e : Nv) (i : Nat) : VL → Option D
  | .fz d => some d
  | .fr _ => none
  | .pk j => match e[j]? with
    | some (some (.ow, .lst xs)) => if j = i then none else some (.lst xs)
    | some (some (.sh, d)) => some d
    | _ => none
mutual
/-- no list within -/
def flatD : D → Bool
  | .non => true
  | .bl _ => true
  | .int _ => true
  | .str _ => true
  | .tup xs => flatL xs
  | _ => false
def flatL : List D → Bool
  | [] => true
  | x :: xs => flatD x && flatL xs
end
def rof (p : Bool × D) : VL := if p.1 then .fr p.2 else .fz p.2
def rget {α : Type} (o : Option α) (e : Nv) : R α := match o with
  | some a => .ok a e
  | none => .bad
/-- the turns of a comprehension: nothing raised within -/
def lcGo (vs : List Nat) (t : T) (f : Nv → R (Option D)) : List D → List D → Nv → R (List D)
  | [], acc, e => .ok acc e
  | x :: xs, acc, e => (match setT t x e with
    | some e1 => (match f e1 with
      | .ok (some d) e2 => if acc.length < lim then lcGo vs t f xs (acc ++ [d]) (wipeN e2 vs) else .bad
      | .ok none e2 => lcGo vs t f xs acc (wipeN e2 vs)
      | _ => .bad)
    | none => .bad)
def dcGo (vs : List Nat) (t : T) (f : Nv → R (Option (L2.Key × D))) : List D → List (L2.Key × D) → Nv → R (List (L2.Key × D))
  | [], acc, e => .ok acc e
  | x :: xs, acc, e => (match setT t x e with
    | some e1 => (match f e1 with
      | .ok (some kv) e2 => if acc.length < lim then dcGo vs t f xs (putK acc kv.1 kv.2) (wipeN e2 vs) else .bad
      | .ok none e2 => dcGo vs t f xs acc (wipeN e2 vs)
      | _ => .bad)
    | none => .bad)
/-- two clauses -/
def lc2Go (vs : List Nat) (t : T) (f : List D → Nv → R (List D)) : List D → List D → Nv → R (List D)
  | [], acc, e => .ok acc e
  | x :: xs, acc, e => (match setT t x e with
    | some e1 => (match f acc e1 with
      | .ok acc1 e2 => lc2Go vs t f xs acc1 (wipeN e2 vs)
      | _ => .bad)
    | none => .bad)
abbrev lim62 : Int := 4611686018427387904
def rngV (a b st : Int) : Option (List D) :=
  if -lim62 ≤ a ∧ a < lim62 ∧ -lim62 ≤ b ∧ b < lim62 then
    (if st = 1 then some (rngL a 1 (b - a).toNat) else if st = -1 then some (rngL a (-1) (a - b).toNat) else none)
  else none

section
variable (cb : Cal) (K : Nat → Option D)
mutual
def den : E → Nv → R VL
  | .non, e => .ok (.fz .non) e
  | .bl b, e => .ok (.fz (.bl b)) e
  | .int i, e => .ok (.fz (.int i)) e
  | .str x, e => .ok (.fz (.str x)) e
  | .var i, e => (match e[i]? with
    | some (some (.sh, d)) => .ok (.fz d) e
    | some (some (_, _)) => .ok (.pk i) e
    | _ => .bad)
  | .glb g, e => (match K g with
    | some d => .ok (.fz d) e
    | none => .bad)
  | .fnv f, e => .ok (.fz (.fn f)) e
  | .dn, e => .ok (.fr (.dct [])) e
  | .tup as, e => (denL as e).bind fun vs e1 => (match fzL e1 vs with
    | some (ds, e2) => if ds.length ≤ lim then .ok (.fz (.tup ds)) e2 else .bad
    | none => .bad)
  | .lst as, e => (denL as e).bind fun vs e1 => (match fzL e1 vs with
    | some (ds, e2) => if ds.length ≤ lim then .ok (.fr (.lst ds)) e2 else .bad
    | none => .bad)
  | .star _, _ => .bad
  | .bin op a b, e => (den a e).bind fun va e1 => (den b e1).bind fun vb e2 => (match lkv e2 va, lkv e2 vb with
    | some x, some y => (match binop op x y with
      | some p => .ok (rof p) e2
      | none => .bad)
    | _, _ => .bad)
  | .neg a, e => (den a e).bind fun va e1 => (match intV e1 va with
    | some i => .ok (.fz (.int (-i))) e1
    | none => .bad)
  | .cmp op a b, e => (den a e).bind fun va e1 => (den b e1).bind fun vb e2 => (match lkv e2 va, lkv e2 vb with
    | some x, some y => (match cmpop op x y with
      | some p => .ok (.fz (.bl p)) e2
      | none => .bad)
    | _, _ => .bad)
  | .chn o1 o2 a b c, e => (den a e).bind fun va e1 => (den b e1).bind fun vb e2 => (match lkv e2 va, lkv e2 vb with
    | some x, some y => (match cmpop o1 x y with
      | some true => (den c e2).bind fun vc e3 => (match lkv e3 vb, lkv e3 vc with
        | some y, some z => (match cmpop o2 y z with
          | some q => .ok (.fz (.bl q)) e3
          | none => .bad)
        | _, _ => .bad)
      | some false => .ok (.fz (.bl false)) e2
      | none => .bad)
    | _, _ => .bad)
  | .and a b, e => (den a e).bind fun va e1 => (match boolV e1 va with
    | some true => den b e1
    | some false => .ok (.fz (.bl false)) e1
    | none => .bad)
  | .or a b, e => (den a e).bind fun va e1 => (match boolV e1 va with
    | some true => .ok (.fz (.bl true)) e1
    | some false => den b e1
    | none => .bad)
  | .not a, e => (den a e).bind fun va e1 => (match boolV e1 va with
    | some b => .ok (.fz (.bl (!b))) e1
    | none => .bad)
  | .ife c a b, e => (den c e).bind fun vc e1 => (match boolV e1 vc with
    | some true => den a e1
    | some false => den b e1
    | none => .bad)
  | .idx a i, e => (den a e).bind fun va e1 => (den i e1).bind fun vi e2 => (match lkv e2 va, lkv e2 vi with
    | some x, some y => (match ixop x y with
      | some d => .ok (.fz d) e2
      | none => .bad)
    | _, _ => .bad)
  | .slc a lo hi, e => (den a e).bind fun va e1 => (denO lo e1).bind fun l e2 => (denO hi e2).bind fun h e3 => (match lkv e3 va with
    | some x => (match slop x l h with
      | some p => .ok (rof p) e3
      | none => .bad)
    | none => .bad)
  | .rev a, e => (den a e).bind fun va e1 => (match lkv e1 va with
    | some x => (match revop x with
      | some p => .ok (rof p) e1
      | none => .bad)
    | none => .bad)
  | .blt b as, e => (denL as e).bind fun vs e1 => (match vs.mapM (lkv e1) with
    | some ds => (match bltop b ds with
      | some p => .ok (rof p) e1
      | none => .bad)
    | none => .bad)
  | .call f none as, e => (denL as e).bind fun vs e1 => (match fzL e1 vs with
    | some (ds, e2) => (match cb f ds with
      | .ok fr r _ => .ok (rof (fr, r)) e2
      | .exc c v _ => .exc c v e2
      | .bad => .bad)
    | none => .bad)
  | .call f (some i) as, e => if (ownB e i).isSome then (denL as e).bind fun vs e1 => (match fzL e1 vs with
    | some (ds, e2) => (match ownB e2 i with
      | some (fl, .lst xs) => (match cb f (.lst xs :: ds) with
        | .ok fr r d' => .ok (rof (fr, r)) (e2.set i (some (fl, d')))
        | _ => .bad)
      | _ => .bad)
    | none => .bad) else .bad
  | .callL f i as, e => if (ownB e i).isSome then (denL as e).bind fun vs e1 => (match vs.mapM (lnV e1 i) with
    | some ds => (match ownB e1 i with
      | some (fl, .lst xs) => (match cb f (.lst xs :: ds) with
        | .ok false r (.lst ys) => if (flatD r && flatL ys) = true then .ok (.fz r) (e1.set i (some (fl, .lst ys))) else .bad
        | _ => .bad)
      | _ => .bad)
    | none => .bad) else .bad
  | .callF f a, e => (den a e).bind fun v e1 => (match v with
    | .fr (.lst xs) => (match cb f [.lst xs] with
      | .ok fr r _ => .ok (rof (fr, r)) e1
      | _ => .bad)
    | _ => .bad)
  | .new c f as, e => (denL as e).bind fun vs e1 => (match fzL e1 vs with
    | some (ds, e2) => (match cb f (.obj c [] :: ds) with
      | .ok _ .non d' => .ok (.fz d') e2
      | .exc c v _ => .exc c v e2
      | _ => .bad)
    | none => .bad)
  | .fld a c k, e => (den a e).bind fun va e1 => (match lkv e1 va with
    | some (.obj c' fs) => if c = c' then (match fs[k]? with
      | some (some d) => .ok (.fz d) e1
      | _ => .bad) else .bad
    | _ => .bad)
  | .prop a c f, e => (den a e).bind fun va e1 => (match va with
    | .fz (.obj c' fs) => if c = c' then (match cb f [.obj c' fs] with
      | .ok fr r _ => .ok (rof (fr, r)) e1
      | _ => .bad) else .bad
    | _ => .bad)
  | .pop i none, e => (match e[i]? with
    | some (some (.ow, .lst xs)) => (match xs[xs.length - 1]? with
      | some d => .ok (.fz d) (e.set i (some (.ow, .lst xs.dropLast)))
      | none => .bad)
    | _ => .bad)
  | .pop i (some a), e => if isOwL e i then (den a e).bind fun va e1 => (match e1[i]?, intV e1 va with
    | some (some (.ow, .lst xs)), some k => if 0 ≤ k ∧ k < 9223372036854775808 then (match xs[k.toNat]? with
      | some d => .ok (.fz d) (e1.set i (some (.ow, .lst (xs.eraseIdx k.toNat))))
      | none => .bad) else .bad
    | _, _ => .bad) else .bad
  | .app i a, e => if isOwL e i then (den a e).bind fun va e1 => (match fzv e1 va with
    | some (d, e2) => (match e2[i]? with
      | some (some (.ow, .lst xs)) => if xs.length < lim then .ok (.fz .non) (e2.set i (some (.ow, .lst (xs ++ [d])))) else .bad
      | _ => .bad)
    | none => .bad) else .bad
  | .get a k d, e => (den a e).bind fun va e1 => if isDct e1 va then (den k e1).bind fun vk e2 => (den d e2).bind fun vd e3 => (match lkv e3 va, lkv e3 vk, fzv e3 vd with
    | some (.dct kvs), some y, some (z, e4) => (match keyD y with
      | some q => .ok (.fz ((getK kvs q).getD z)) e4
      | none => .bad)
    | _, _, _ => .bad) else .bad
  | .lc x vs t src ts, e => (denI src e).bind fun (its, ls) e1 => if noOwn e1 vs then
      (lcGo vs t (fun e2 => (denT ts e2).bind fun b e3 => if b then (den x e3).bind fun v e4 => (match fzv e4 v with
        | some (d, e5) => .ok (some d) e5
        | none => .bad) else .ok none e3) its [] (wipeN e1 vs)).bind fun ds e6 => (match unlock (backN e1 e6 vs) ls with
          | some e7 => .ok (.fr (.lst ds)) e7
          | none => .bad)
    else .bad
  | .lc2 x vs t src ts vs1 t1 src1 ts1, e => (denI src e).bind fun (its, ls) e1 => if noOwn e1 vs then
      (lc2Go vs t (fun acc e2 => (denT ts e2).bind fun b e3 => if b then (denI src1 e3).bind fun (its1, ls1) e4 => if noOwn e4 vs1 then
          (lcGo vs1 t1 (fun e2 => (denT ts1 e2).bind fun b e3 => if b then (den x e3).bind fun v e4 => (match fzv e4 v with
            | some (d, e5) => .ok (some d) e5
            | none => .bad) else .ok none e3) its1 acc (wipeN e4 vs1)).bind fun ds e9 => (match unlock (backN e4 e9 vs1) ls1 with
              | some e10 => .ok ds e10
              | none => .bad)
          else .bad else .ok acc e3) its [] (wipeN e1 vs)).bind fun ds e6 => (match unlock (backN e1 e6 vs) ls with
          | some e7 => .ok (.fr (.lst ds)) e7
          | none => .bad)
    else .bad
  | .ezp _ _, _ => .bad
  | .ext i a, e => if isOwL e i then (den a e).bind fun va e1 => (match lkv e1 va, e1[i]? with
    | some (.lst ys), some (some (.ow, .lst xs)) => if xs.length + ys.length ≤ lim then .ok (.fz .non) (e1.set i (some (.ow, .lst (xs ++ ys)))) else .bad
    | _, _ => .bad) else .bad
  | .lrg tp a b, e => (den a e).bind fun va e1 => (den b e1).bind fun vb e2 => (match intV e2 va, intV e2 vb with
    | some i, some j => (match rngV i j 1 with
      | some ds => if ds.length ≤ lim then .ok (if tp then .fz (.tup ds) else .fr (.lst ds)) e2 else .bad
      | none => .bad)
    | _, _ => .bad)
  | .dc k x vs t src ts, e => (denI src e).bind fun (its, ls) e1 => if noOwn e1 vs then
      (dcGo vs t (fun e2 => (denT ts e2).bind fun b e3 => if b then (den k e3).bind fun vk e4 => (match (lkv e4 vk).bind keyD with
        | some q => (den x e4).bind fun v e5 => (match fzv e5 v with
          | some (d, e6) => .ok (some (q, d)) e6
          | none => .bad)
        | none => .bad) else .ok none e3) its [] (wipeN e1 vs)).bind fun ds e6 => (match unlock (backN e1 e6 vs) ls with
          | some e7 => .ok (.fr (.dct ds)) e7
          | none => .bad)
    else .bad
  | .rng _ _ _, _ => .bad
  | .enm _, _ => .bad
  | .zip _ _, _ => .bad
  | .its _, _ => .bad
  | .nvr, _ => .bad
termination_by structural x => x
/-- arguments and displays, starred ones spliced; what is fresh is frozen at once -/
def denL : List E → Nv → R (List VL)
  | [], e => .ok [] e
  | .star a :: r, e => (den a e).bind fun v e1 => (match (lkv e1 v).bind seqD with
    | some xs => (denL r e1).bind fun vs e2 => .ok (xs.map VL.fz ++ vs) e2
    | none => .bad)
  | a :: r, e => (den a e).bind fun v e1 => (denL r e1).bind fun vs e2 => .ok (v.set :: vs) e2
termination_by structural x => x
/-- an end of a slice -/
def denO : Option E → Nv → R (Option Int)
  | none, e => .ok none e
  | some a, e => (den a e).bind fun v e1 => (match intV e1 v with
    | some i => .ok (some i) e1
    | none => .bad)
termination_by structural x => x
/-- tests -/
def denT : List E → Nv → R Bool
  | [], e => .ok true e
  | a :: r, e => (den a e).bind fun v e1 => (match boolV e1 v with
    | some true => denT r e1
    | some false => .ok false e1
    | none => .bad)
termination_by structural x => x
/-- what is walked: the items, the locked slots -/
def denI : E → Nv → R (List D × List Nat)
  | .rng a b st, e => (den a e).bind fun va e1 => (den b e1).bind fun vb e2 => (match intV e2 va, intV e2 vb with
    | some i, some j => (match rngV i j st with
      | some ds => .ok (ds, []) e2
      | none => .bad)
    | _, _ => .bad)
  | .enm a, e => (den a e).bind fun v e1 => (match walkD seqD e1 v with
    | some xs => .ok (enmL 0 xs, (lockV e1 v).2) (lockV e1 v).1
    | none => .bad)
  | .zip a b, e => (den a e).bind fun v e1 => (den b e1).bind fun w e2 => (match walkD seqD e2 v, walkD seqD e2 w with
    | some xs, some ys => .ok (zipL xs ys, (lockV (lockV e2 v).1 w).2 ++ (lockV e2 v).2) (lockV (lockV e2 v).1 w).1
    | _, _ => .bad)
  | .ezp a b, e => (den a e).bind fun v e1 => (den b e1).bind fun w e2 => (match walkD seqD e2 v, walkD seqD e2 w with
    | some xs, some ys => .ok (enmL 0 (zipL xs ys), (lockV (lockV e2 v).1 w).2 ++ (lockV e2 v).2) (lockV (lockV e2 v).1 w).1
    | _, _ => .bad)
  | .its a, e => (den a e).bind fun v e1 => (match walkD itsD e1 v with
    | some xs => .ok (xs, (lockV e1 v).2) (lockV e1 v).1
    | none => .bad)
  | _, _ => .bad
termination_by structural x => x
end
end

/-! ### statements -/
inductive SR where
  | nx (e : Nv) | bk (e : Nv) | ct (e : Nv) | rt (v : VL) (e : Nv) | exc (c : Nat) (v : D) (e : Nv) | bad
@[simp] def R.toS {α : Type} : R α → (α → Nv → SR) → SR
  | .ok a e, f => f a e
  | .exc c v e, _ => .exc c v e
  | .bad, _ => .bad
@[simp] def SR.bind : SR → (Nv → SR) → SR
  | .nx e, f => f e
  | s, _ => s
def sget (o : Option Nv) : SR := match o with
  | some e => .nx e
  | none => .bad
def pkF (e : Nv) : VL → Option (VL × Nv)
  | .fr d => some (.fr d, e)
  | v => (match fzv e v with
    | some (d, e1) => some (.fz d, e1)
    | none => none)
/-- values to names, one after another -/
def setVs : List Nat → List VL → Nv → Option Nv
  | [], [], e => some e
  | i :: is, v :: vs, e => (match setV i v e with
    | some e1 => setVs is vs e1
    | none => none)
  | _, _, _ => none
def forGo (t : T) (f : Nv → SR) : List D → Nv → SR
  | [], e => .nx e
  | x :: xs, e => (match setT t x e with
    | some e1 => (match f e1 with
      | .nx e2 => forGo t f xs e2
      | .ct e2 => forGo t f xs e2
      | .bk e2 => .nx e2
      | r => r)
    | none => .bad)
def whlGo (c : Nv → R Bool) (f : Nv → SR) : Nat → Nv → SR
  | 0, _ => .bad
  | n + 1, e => (c e).toS fun b e1 => if b then (match f e1 with
      | .nx e2 => whlGo c f n e2
      | .ct e2 => whlGo c f n e2
      | .bk e2 => .nx e2
      | r => r) else .nx e1
abbrev fuelW : Nat := 100000
def setK (c k v : D) : Option D := match c, k with
  | .lst xs, .int i => if 0 ≤ i then (if i < xs.length then some (.lst (xs.set i.toNat v)) else none) else if -(xs.length : Int) ≤ i then some (.lst (xs.set (i + xs.length).toNat v)) else none
  | .dct kvs, k => (keyD k).bind fun q => if kvs.length < lim then some (.dct (putK kvs q v)) else none
  | _, _ => none
section
variable (cb : Cal) (K : Nat → Option D)
/-- several values: fresh ones kept, what is picked is frozen -/
def denF : List E → Nv → R (List VL)
  | [], e => .ok [] e
  | a :: r, e => (den cb K a e).bind fun v e1 => (match pkF e1 v with
    | some (v', e2) => (denF r e2).bind fun vs e3 => .ok (v' :: vs) e3
    | none => .bad)
mutual
def denS : S → Nv → SR
  | .set (.v i) a, e => (den cb K a e).toS fun v e1 => sget (setV i v e1)
  | .set t a, e => (den cb K a e).toS fun v e1 => (match fzv e1 v with
    | some (d, e2) => sget (setT t d e2)
    | none => .bad)
  | .par is as, e => (denF cb K as e).toS fun vs e1 => sget (setVs is vs e1)
  | .aug i op a, e => (match e[i]? with
    | some (some (.sh, .int x)) => (den cb K a e).toS fun v e1 => (match intV e1 v with
      | some y => (match op with
        | .add => sget (setT (.v i) (.int (x + y)) e1)
        | .sub => sget (setT (.v i) (.int (x - y)) e1)
        | _ => .bad)
      | none => .bad)
    | _ => .bad)
  | .seti i k v, e => if (ownB e i).isSome then (den cb K v e).toS fun vv e1 => (den cb K k e1).toS fun vk e2 => (match fzv e2 vv with
    | some (z, e3) => (match ownB e3 i, lkv e3 vk with
      | some (fl, c), some y => (match setK c y z with
        | some c' => .nx (e3.set i (some (fl, c')))
        | none => .bad)
      | _, _ => .bad)
    | none => .bad) else .bad
  | .ex a, e => (den cb K a e).toS fun _ e1 => .nx e1
  | .ret a, e => (den cb K a e).toS fun v e1 => .rt v e1
  | .retN, e => .rt (.fz .non) e
  | .ite c a b, e => (den cb K c e).toS fun v e1 => (match boolV e1 v with
    | some true => denB a e1
    | some false => denB b e1
    | none => .bad)
  | .for t src b, e => (denI cb K src e).toS fun p e1 => (forGo t (denB b) p.1 e1).bind fun e2 => sget (unlock e2 p.2)
  | .whl c b, e => whlGo (fun e => (den cb K c e).bind fun v e1 => (match boolV e1 v with
    | some q => .ok q e1
    | none => .bad)) (denB b) fuelW e
  | .brk, e => .bk e
  | .cnt, e => .ct e
  | .pass, e => .nx e
  | .rai c a, e => (den cb K a e).toS fun v e1 => (match fzv e1 v with
    | some (d, e2) => .exc c d e2
    | none => .bad)
  | .nvr, _ => .bad
termination_by structural x => x
def denB : List S → Nv → SR
  | [], e => .nx e
  | s :: r, e => (denS s e).bind (denB r)
termination_by structural x => x
end
end
def startN (f : Fn) (ds : List D) : Nv := ((match f.io, ds with
  | true, d :: r => some (Fl.io, d) :: r.map fun d => some (Fl.sh, d)
  | _, ds => ds.map fun d => some (Fl.sh, d)) : Nv) ++ List.replicate (f.ns - ds.length) none
def ioN (f : Fn) (e : Nv) : Option D := if f.io then (match (e[(0 : Nat)]? : Option Slot) with
  | some (some (.io, d)) => some d
  | _ => none) else some .non
/-- what was an instance stays one -/
def kindOk : D → D → Bool
  | .obj _ _, .obj _ _ => true
  | .obj _ _, _ => false
  | _, .obj _ _ => false
  | _, _ => true
def kindR (f : Fn) (ds : List D) : CR → CR
  | .ok fr r d => if f.io then (match ds with
    | d0 :: _ => if kindOk d0 d then .ok fr r d else .bad
    | [] => .bad) else .ok fr r d
  | r => r
def finR (f : Fn) : SR → CR
  | .nx e => (match ioN f e with
    | some d => .ok false .non d
    | none => .bad)
  | .rt v e => (match ioN f e with
    | some d => (match v with
      | .fz r => .ok false r d
      | .fr r => .ok true r d
      | .pk i => (match e[i]? with
        | some (some (.ow, r)) => .ok true r d
        | some (some (.sh, r)) => .ok false r d
        | _ => .bad))
    | none => .bad)
  | .exc c v e => (match ioN f e with
    | some d => .exc c v d
    | none => .bad)
  | _ => .bad
def callF (TB : Nat → Option Fn) (K : Nat → Option D) : Nat → Cal
  | 0 => fun _ _ => .bad
  | n + 1 => fun f ds => match TB f with
    | some d => if ds.length = d.np then kindR d ds (finR d (denB (callF TB K n) K d.body (startN d ds))) else .bad
    | none => .bad
example : den (fun _ _ => .bad) (fun _ => none) (.bin .add (.int 2) (.int 3)) [] = .ok (.fz (.int 5)) [] := rfl
example : callF (fun _ => some ⟨1, 2, false, [.set (.v 1) (.lst []), .par [1] [.non], .for (.v 1) (.rng (.int 0) (.var 0) 1) [.pass], .ret (.lc (.bin .add (.var 1) (.int 1)) [1] (.v 1) (.rng (.int 0) (.var 0) 1) [])]⟩) (fun _ => none) 3 0 [.int 3] = .ok true (.lst [.int 1, .int 2, .int 3]) .non := by rfl
end RT

set_option Elab.async false
set_option linter.all false
set_option maxRecDepth 100000
/-! CoreB: how plain data lies in the abstract heap; what a reading has to show. -/
namespace RT
open PySem PySem.Spec PyProof.Rows L2

def Sub (F H : Hp) : Prop := ∀ a o, F a = some o → H a = some o
theorem Sub.refl {F : Hp} : Sub F F := fun _ _ h => h
theorem Sub.trans {F G H : Hp} (a : Sub F G) (b : Sub G H) : Sub F H := fun x o h => b x o (a x o h)
theorem Sub.rd {F H : Hp} (s : Sub F H) {a : Addr} {u : HO} (h : Rd F a u) : Rd H a u := by
  rcases h with h | ⟨o, h⟩
  · exact .inl (s _ _ h)
  · exact .inr ⟨o, s _ _ h⟩
theorem Sub.sqL {K : PySem.W.Frag} {F H : Hp} (s : Sub F H) {a : Addr} {xs : List V} (h : SqL K F a xs) : SqL K H a xs := by
  rcases h with h | h
  · exact .inl (s.rd h)
  · exact .inr h
theorem Sub.sqT {K : PySem.W.Frag} {F H : Hp} (s : Sub F H) {a : Addr} {xs : List V} (h : SqT K F a xs) : SqT K H a xs := by
  rcases h with h | h
  · exact .inl (s.rd h)
  · exact .inr h
theorem Sub.slt {F H : Hp} (s : Sub F H) {a C dx : Addr} {vs : List (Option V)} (h : SlX.Slt F a C dx vs) : SlX.Slt H a C dx vs := by
  rcases h with ⟨h, e⟩ | ⟨h, e⟩
  · exact .inl ⟨s _ _ h, e⟩
  · exact .inr ⟨s _ _ h, s _ _ e⟩
theorem Sub.upd {F : Hp} {p : Addr} {o : HO} (h : F p = none) : Sub F (upd F p o) := fun a u e => by
  rw [upd_ne (ne_of_none e h)]
  exact e
theorem Sub.upd2 {F H : Hp} (s : Sub F H) {p : Addr} {o : HO} : Sub (L2.upd F p o) (L2.upd H p o) := fun a u e => by
  by_cases q : a = p
  · subst q
    rw [upd_same] at e ⊢
    exact e
  · rw [upd_ne q] at e ⊢
    exact s _ _ e
theorem Sub.updR {F H : Hp} (s : Sub F H) {p : Addr} {o : HO} (h : F p = none) : Sub F (L2.upd H p o) := fun a u e => by
  rw [upd_ne (ne_of_none e h)]
  exact s _ _ e

mutual
inductive Rep (C : Ct) (F : Hp) : V → D → Prop
  | non : Rep C F .non .non
  | bl (b : Bool) : Rep C F (.bl b) (.bl b)
  | int (i : Int) : Rep C F (.int i) (.int i)
  | str (x : Str) : Rep C F (.str x) (.str x)
  | tup {a : Addr} {xs : List V} {ds : List D} : SqT C.K F a xs → RepL C F xs ds → Rep C F (.ref a) (.tup ds)
  | lst {a : Addr} {xs : List V} {ds : List D} : F a = some (.lst xs) → RepL C F xs ds → Rep C F (.ref a) (.lst ds)
  | dct {a : Addr} {kvs : List (Key × V)} {ds : List (Key × D)} : Rd F a (.dK kvs) → RepK C F kvs ds → Rep C F (.ref a) (.dct ds)
  | sls {a : Addr} {xs : List V} {ds : List D} : SqL C.K F a xs → RepL C F xs ds → Rep C F (.ref a) (.sls ds)
  | obj {a dx : Addr} {vs : List (Option V)} {c : Nat} {fs : List (Option D)} : C.cs c = true → SlX.Slt F a (C.clA c) dx vs → RepO C F vs fs → Rep C F (.ref a) (.obj c fs)
  | fn (f : Nat) : Rep C F (.ref (C.fnA f)) (.fn f)
inductive RepL (C : Ct) (F : Hp) : List V → List D → Prop
  | nil : RepL C F [] []
  | cons {v : V} {d : D} {vs : List V} {ds : List D} : Rep C F v d → RepL C F vs ds → RepL C F (v :: vs) (d :: ds)
inductive RepK (C : Ct) (F : Hp) : List (Key × V) → List (Key × D) → Prop
  | nil : RepK C F [] []
  | cons {k : Key} {v : V} {d : D} {vs : List (Key × V)} {ds : List (Key × D)} : Rep C F v d → RepK C F vs ds → RepK C F ((k, v) :: vs) ((k, d) :: ds)
inductive RepO (C : Ct) (F : Hp) : List (Option V) → List (Option D) → Prop
  | nil : RepO C F [] []
  | none {o : Option V} {vs : List (Option V)} {ds : List (Option D)} : RepO C F vs ds → RepO C F (o :: vs) (.none :: ds)
  | some {v : V} {d : D} {vs : List (Option V)} {ds : List (Option D)} : Rep C F v d → RepO C F vs ds → RepO C F (some v :: vs) (.some d :: ds)
end
section
variable {C : Ct} {F F' H : Hp}
mutual
theorem Rep.mono (s : Sub F F') : ∀ (d : D) (v : V), Rep C F v d → Rep C F' v d
  | .non, _, h => by cases h; exact .non
  | .bl _, _, h => by cases h; exact .bl _
  | .int _, _, h => by cases h; exact .int _
  | .str _, _, h => by cases h; exact .str _
  | .tup ds, _, h => by
    cases h with
    | tup h r => exact .tup (s.sqT h) (RepL.mono s ds _ r)
  | .lst ds, _, h => by
    cases h with
    | lst h r => exact .lst (s _ _ h) (RepL.mono s ds _ r)
  | .dct ds, _, h => by
    cases h with
    | dct h r => exact .dct (s.rd h) (RepK.mono s ds _ r)
  | .obj _ fs, _, h => by
    cases h with
    | obj k h r => exact .obj k (s.slt h) (RepO.mono s fs _ r)
  | .fn _, _, h => by cases h; exact .fn _
  | .ty _, _, h => by cases h
  | .clo _ _, _, h => by cases h
  | .exv _ _, _, h => by cases h
  | .sls ds, _, h => by
    cases h with
    | sls h r => exact .sls (s.sqL h) (RepL.mono s ds _ r)
theorem RepL.mono (s : Sub F F') : ∀ (ds : List D) (vs : List V), RepL C F vs ds → RepL C F' vs ds
  | [], _, h => by cases h; exact .nil
  | d :: ds, _, h => by
    cases h with
    | cons h r => exact .cons (Rep.mono s d _ h) (RepL.mono s ds _ r)
theorem RepK.mono (s : Sub F F') : ∀ (ds : List (Key × D)) (vs : List (Key × V)), RepK C F vs ds → RepK C F' vs ds
  | [], _, h => by cases h; exact .nil
  | (_, d) :: ds, _, h => by
    cases h with
    | cons h r => exact .cons (Rep.mono s d _ h) (RepK.mono s ds _ r)
theorem RepO.mono (s : Sub F F') : ∀ (ds : List (Option D)) (vs : List (Option V)), RepO C F vs ds → RepO C F' vs ds
  | [], _, h => by cases h; exact .nil
  | .none :: ds, _, h => by
    cases h with
    | none r => exact .none (RepO.mono s ds _ r)
  | .some d :: ds, _, h => by
    cases h with
    | some h r => exact .some (Rep.mono s d _ h) (RepO.mono s ds _ r)
end
theorem Rep.up {v : V} {d : D} (h : Rep C F v d) (s : Sub F F') : Rep C F' v d := Rep.mono s d v h
theorem RepL.up {v : List V} {d : List D} (h : RepL C F v d) (s : Sub F F') : RepL C F' v d := RepL.mono s d v h
theorem RepK.up {v : List (Key × V)} {d : List (Key × D)} (h : RepK C F v d) (s : Sub F F') : RepK C F' v d := RepK.mono s d v h
theorem RepO.up {v : List (Option V)} {d : List (Option D)} (h : RepO C F v d) (s : Sub F F') : RepO C F' v d := RepO.mono s d v h
theorem RepL.length : ∀ {vs : List V} {ds : List D}, RepL C F vs ds → vs.length = ds.length
  | _, _, .nil => rfl
  | _, _, .cons _ r => by simp [RepL.length r]
theorem RepL.append : ∀ {vs ws : List V} {ds es : List D}, RepL C F vs ds → RepL C F ws es → RepL C F (vs ++ ws) (ds ++ es)
  | _, _, _, _, .nil, s => s
  | _, _, _, _, .cons h r, s => .cons h (RepL.append r s)
theorem RepL.get : ∀ {vs : List V} {ds : List D} {i : Nat} {d : D}, RepL C F vs ds → ds[i]? = some d → ∃ v, vs[i]? = some v ∧ Rep C F v d
  | _, _, _, _, .nil, e => by simp at e
  | _, _, 0, _, .cons h _, e => by simp at e; subst e; exact ⟨_, by simp, h⟩
  | _, _, i + 1, _, .cons _ r, e => by
    obtain ⟨v, h1, h2⟩ := RepL.get (i := i) r (by simpa using e)
    exact ⟨v, by simpa using h1, h2⟩
theorem RepL.getV : ∀ {vs : List V} {ds : List D} {i : Nat} {v : V}, RepL C F vs ds → vs[i]? = some v → ∃ d, ds[i]? = some d ∧ Rep C F v d
  | _, _, _, _, .nil, e => by simp at e
  | _, _, 0, _, .cons h _, e => by simp at e; subst e; exact ⟨_, by simp, h⟩
  | _, _, i + 1, _, .cons _ r, e => by
    obtain ⟨v, h1, h2⟩ := RepL.getV (i := i) r (by simpa using e)
    exact ⟨v, by simpa using h1, h2⟩
theorem RepL.set {v : V} {d : D} (h : Rep C F v d) : ∀ {vs : List V} {ds : List D} (i : Nat), RepL C F vs ds → RepL C F (vs.set i v) (ds.set i d)
  | _, _, _, .nil => .nil
  | _, _, 0, .cons _ r => .cons h r
  | _, _, i + 1, .cons q r => .cons q (RepL.set h i r)
theorem RepL.take : ∀ {vs : List V} {ds : List D} (n : Nat), RepL C F vs ds → RepL C F (vs.take n) (ds.take n)
  | _, _, 0, _ => .nil
  | _, _, _ + 1, .nil => .nil
  | _, _, n + 1, .cons q r => .cons q (RepL.take n r)
theorem RepL.drop : ∀ {vs : List V} {ds : List D} (n : Nat), RepL C F vs ds → RepL C F (vs.drop n) (ds.drop n)
  | _, _, 0, h => h
  | _, _, _ + 1, .nil => .nil
  | _, _, n + 1, .cons q r => RepL.drop n r
theorem RepL.eraseIdx : ∀ {vs : List V} {ds : List D} (n : Nat), RepL C F vs ds → RepL C F (vs.eraseIdx n) (ds.eraseIdx n)
  | _, _, _, .nil => .nil
  | _, _, 0, .cons q r => r
  | _, _, n + 1, .cons q r => .cons q (RepL.eraseIdx n r)
theorem RepL.reverse {vs : List V} {ds : List D} (h : RepL C F vs ds) : RepL C F vs.reverse ds.reverse := by
  induction vs generalizing ds with
  | nil => cases h; exact .nil
  | cons v vs ih =>
    cases h with
    | cons q r =>
      rw [List.reverse_cons, List.reverse_cons]
      exact (ih r).append (.cons q .nil)
theorem RepL.flat {vs : List V} {ds : List D} (h : RepL C F vs ds) : ∀ n, RepL C F (List.replicate n vs).flatten (List.replicate n ds).flatten
  | 0 => .nil
  | n + 1 => by
    rw [List.replicate_succ, List.replicate_succ, List.flatten_cons, List.flatten_cons]
    exact h.append (RepL.flat h n)
theorem RepL.dropLast {vs : List V} {ds : List D} (h : RepL C F vs ds) : RepL C F vs.dropLast ds.dropLast := by
  rw [List.dropLast_eq_take, List.dropLast_eq_take, h.length]
  exact h.take _
end

/-! ### an own list's contents, frames -/
inductive ConL (C : Ct) (F H : Hp) (p : Addr) : D → Prop
  | lst {xs : List V} {ds : List D} : H p = some (.lst xs) → RepL C F xs ds → ConL C F H p (.lst ds)
  | dct {kvs : List (Key × V)} {ds : List (Key × D)} : H p = some (.dK kvs) → RepK C F kvs ds → ConL C F H p (.dct ds)
/-- an instance with slots, as far as its fields are stored -/
def Ob (H : Hp) (a C dx : Addr) (vs : List (Option V)) : Prop := (H a = some (.ins C dx []) ∧ vs = [] ∧ H dx = some (.own a)) ∨ (H a = some (SlX.SlO a C dx vs) ∧ H dx = some (.xd []))
theorem Ob.slt {H : Hp} {a C dx : Addr} {vs : List (Option V)} (h : Ob H a C dx vs) : SlX.Slt H a C dx vs := by
  rcases h with ⟨h, e, _⟩ | h
  · exact .inl ⟨h, e⟩
  · exact .inr h
instance : CoeFun Rv fun _ => Addr → Prop := ⟨Rv.rs⟩
inductive Con (C : Ct) (G : Hp) (Rs : Rv) (F H : Hp) (p : Addr) (fl : Fl) : D → Prop
  | l {d : D} : ConL C F H p d → Con C G Rs F H p fl d
  | obj {dx : Addr} {vs : List (Option V)} {c : Nat} {fs : List (Option D)} : fl = Fl.io → C.cs c = true → Ob H p (C.clA c) dx vs → dx ≠ p → F dx = none → G dx = none → ¬ Rs dx → RepO C F vs fs → Rs.dx = some dx → Con C G Rs F H p fl (.obj c fs)
structure Rel (C : Ct) (G : Hp) (Rs : Rv) (F H : Hp) (σ : L2.St) (e : Nv) : Prop where
  len : σ.length = e.length
  fh : Sub F H
  gh : Sub G H
  rs : ∀ a, Rs a → F a = none ∧ H a ≠ none
  sh : ∀ (i : Nat) (d : D), e[i]? = some (some (Fl.sh, d)) → ∃ v, σ[i]? = some (some v) ∧ Rep C F v d
  ow : ∀ (i : Nat) (fl : Fl) (d : D), e[i]? = some (some (fl, d)) → fl ≠ Fl.sh → ∃ p, σ[i]? = some (some (V.ref p)) ∧ F p = none ∧ ¬ Rs p ∧ G p = none ∧ Con C G Rs F H p fl d
  inj : ∀ (i j : Nat) (fi fj : Fl) (di dj : D) (p : Addr), i ≠ j → e[i]? = some (some (fi, di)) → fi ≠ Fl.sh → e[j]? = some (some (fj, dj)) → fj ≠ Fl.sh → σ[i]? = some (some (V.ref p)) → σ[j]? = some (some (V.ref p)) → False
/-- the value v of a slot's kind -/
def VRep (C : Ct) (G : Hp) (Rs : Rv) (F H : Hp) (σ : L2.St) (e : Nv) (v : V) : VL → Prop
  | .fz d => Rep C F v d
  | .fr d => ∃ p, v = .ref p ∧ F p = none ∧ ¬ Rs p ∧ G p = none ∧ ConL C F H p d ∧ ∀ (i : Nat) (fl : Fl) (d' : D), e[i]? = some (some (fl, d')) → fl ≠ Fl.sh → σ[i]? ≠ some (some (V.ref p))
  | .pk i => σ[i]? = some (some v)
/-- what may be looked at now -/
inductive Insp (C : Ct) (F H : Hp) : V → D → Prop
  | rep {v : V} {d : D} : Rep C F v d → Insp C F H v d
  | lst {a : Addr} {xs : List V} {ds : List D} : H a = some (.lst xs) → RepL C F xs ds → Insp C F H (.ref a) (.lst ds)
  | dct {a : Addr} {kvs : List (Key × V)} {ds : List (Key × D)} : H a = some (.dK kvs) → RepK C F kvs ds → Insp C F H (.ref a) (.dct ds)
  | obj {a dx : Addr} {vs : List (Option V)} {c : Nat} {fs : List (Option D)} : C.cs c = true → SlX.Slt H a (C.clA c) dx vs → RepO C F vs fs → Insp C F H (.ref a) (.obj c fs)
section
variable {C : Ct} {G : Hp} {Rs : Rv} {F F' H H' : Hp} {σ : L2.St} {e : Nv} {v : V}
theorem ConL.insp {p : Addr} {d : D} (h : ConL C F H p d) : Insp C F H (.ref p) d := by
  cases h with
  | lst h r => exact .lst h r
  | dct h r => exact .dct h r
theorem Con.insp {p : Addr} {fl : Fl} {d : D} (h : Con C G Rs F H p fl d) : Insp C F H (.ref p) d := by
  cases h with
  | l h => exact h.insp
  | obj _ k h _ _ _ _ r _ => exact .obj k h.slt r
theorem ConL.there {p : Addr} {d : D} (h : ConL C F H p d) : H p ≠ none := by
  cases h with
  | lst h r => rw [h]; exact nofun
  | dct h r => rw [h]; exact nofun
theorem Ob.there {a c dx : Addr} {vs : List (Option V)} (h : Ob H a c dx vs) : H a ≠ none ∧ H dx ≠ none := by
  rcases h with ⟨h, _, z⟩ | ⟨h, z⟩
  · rw [h, z]; exact ⟨nofun, nofun⟩
  · rw [h, z]; exact ⟨nofun, nofun⟩
theorem Con.there {p : Addr} {fl : Fl} {d : D} (h : Con C G Rs F H p fl d) : H p ≠ none := by
  cases h with
  | l h => exact h.there
  | obj _ _ h _ _ _ _ r _ => exact h.there.1
theorem Rel.look (r : Rel C G Rs F H σ e) {vl : VL} {d : D} (h : VRep C G Rs F H σ e v vl) (l : lkv e vl = some d) : Insp C F H v d := by
  cases vl with
  | fz d' => cases l; exact .rep h
  | fr d' =>
    cases l
    obtain ⟨p, rfl, _, _, _, c, _⟩ := h
    exact c.insp
  | pk i =>
    have h : σ[i]? = some (some v) := h
    simp only [lkv] at l
    split at l
    · rename_i fl d' e1
      cases l
      by_cases q : fl = Fl.sh
      · subst q
        obtain ⟨u, e2, h2⟩ := r.sh i d e1
        rw [h] at e2
        cases e2
        exact .rep h2
      · obtain ⟨p, e2, _, _, _, c⟩ := r.ow i fl d e1 q
        rw [h] at e2
        cases e2
        exact c.insp
    · cases l
theorem Insp.int {i : Int} (h : Insp C F H v (.int i)) : v = .int i := by
  cases h with | rep h => cases h; rfl
theorem Insp.bl {b : Bool} (h : Insp C F H v (.bl b)) : v = .bl b := by
  cases h with | rep h => cases h; rfl
theorem Insp.str {x : Str} (h : Insp C F H v (.str x)) : v = .str x := by
  cases h with | rep h => cases h; rfl
theorem Insp.non (h : Insp C F H v .non) : v = .non := by
  cases h with | rep h => cases h; rfl
theorem Insp.tup {ds : List D} (h : Insp C F H v (.tup ds)) (s : Sub F H) : ∃ a xs, v = .ref a ∧ SqT C.K H a xs ∧ RepL C F xs ds := by
  cases h with
  | rep h => cases h with | tup h r => exact ⟨_, _, rfl, s.sqT h, r⟩
theorem Insp.lst' {ds : List D} (h : Insp C F H v (.lst ds)) (s : Sub F H) : ∃ a xs, v = .ref a ∧ H a = some (.lst xs) ∧ RepL C F xs ds := by
  cases h with
  | rep h => cases h with | lst h r => exact ⟨_, _, rfl, s _ _ h, r⟩
  | lst h r => exact ⟨_, _, rfl, h, r⟩
theorem Insp.sls {ds : List D} (h : Insp C F H v (.sls ds)) (s : Sub F H) : ∃ a xs, v = .ref a ∧ SqL C.K H a xs ∧ RepL C F xs ds := by
  cases h with
  | rep h => cases h with | sls h r => exact ⟨_, _, rfl, s.sqL h, r⟩
theorem Insp.dct' {ds : List (Key × D)} (h : Insp C F H v (.dct ds)) (s : Sub F H) : ∃ a kvs, v = .ref a ∧ Rd H a (.dK kvs) ∧ RepK C F kvs ds := by
  cases h with
  | rep h => cases h with | dct h r => exact ⟨_, _, rfl, s.rd h, r⟩
  | dct h r => exact ⟨_, _, rfl, .inl h, r⟩
theorem Insp.obj' {c : Nat} {fs : List (Option D)} (h : Insp C F H v (.obj c fs)) (s : Sub F H) : ∃ a dx vs, v = .ref a ∧ C.cs c = true ∧ SlX.Slt H a (C.clA c) dx vs ∧ RepO C F vs fs := by
  cases h with
  | rep h => cases h with | obj k h r => exact ⟨_, _, _, rfl, k, s.slt h, r⟩
  | obj k h r => exact ⟨_, _, _, rfl, k, h, r⟩
theorem Insp.seq {d : D} {ds : List D} (h : Insp C F H v d) (s : Sub F H) (q : seqD d = some ds) : ∃ a xs, v = .ref a ∧ (SqL C.K H a xs ∨ SqT C.K H a xs) ∧ RepL C F xs ds := by
  cases d <;> simp [seqD] at q
  · subst q
    obtain ⟨a, xs, e, h, r⟩ := h.tup s
    exact ⟨a, xs, e, .inr h, r⟩
  · subst q
    obtain ⟨a, xs, e, h, r⟩ := h.lst' s
    exact ⟨a, xs, e, .inl (SqL.of h), r⟩
end
end RT

set_option Elab.async false
set_option linter.all false
set_option maxRecDepth 100000
/-! CoreC: the relation under freezing and laying. -/
namespace RT
open PySem PySem.Spec PyProof.Rows L2

section
variable {C : Ct} {G : Hp} {Rs : Rv} {F F' H H' : Hp} {σ : L2.St} {e : Nv} {v : V}

theorem ConL.up {p : Addr} {d : D} (h : ConL C F H p d) (s : Sub F F') : ConL C F' H p d := by
  cases h with
  | lst a b => exact .lst a (b.up s)
  | dct a b => exact .dct a (b.up s)
theorem ConL.at {p : Addr} {d : D} (h : ConL C F H p d) (k : H' p = H p) : ConL C F H' p d := by
  cases h with
  | lst a b => exact .lst (k.trans a) b
  | dct a b => exact .dct (k.trans a) b
theorem Ob.at {a c dx : Addr} {vs : List (Option V)} (h : Ob H a c dx vs) (k : H' a = H a) (k2 : H' dx = H dx) : Ob H' a c dx vs := by
  rcases h with ⟨h, e, z⟩ | ⟨h, z⟩
  · exact .inl ⟨k.trans h, e, k2.trans z⟩
  · exact .inr ⟨k.trans h, k2.trans z⟩
/-- one list, one dict is frozen -/
theorem Rel.frz1 {p : Addr} {d : D} (r : Rel C G Rs F H σ e) (c : ConL C F H p d) (f0 : F p = none) (n0 : ¬ Rs p)
    (no : ∀ (i : Nat) (fl : Fl) (d' : D), e[i]? = some (some (fl, d')) → fl ≠ Fl.sh → σ[i]? ≠ some (some (V.ref p))) :
    ∃ F', Sub F F' ∧ Rel C G Rs F' H σ e ∧ Rep C F' (.ref p) d := by
  obtain ⟨o, ho, hm⟩ : ∃ o, H p = some o ∧ (∀ x, o ≠ .own x) ∧ o ≠ .xd [] := by
    cases c with
    | lst a b => exact ⟨_, a, nofun, nofun⟩
    | dct a b => exact ⟨_, a, nofun, nofun⟩
  have s : Sub F (upd F p o) := .upd f0
  refine ⟨upd F p o, s, ⟨r.len, ?_, r.gh, ?_, ?_, ?_, r.inj⟩, ?_⟩
  · intro a u h
    by_cases q : a = p
    · subst q
      rw [upd_same] at h
      rw [ho]; exact h
    · rw [upd_ne q] at h
      exact r.fh a u h
  · intro a ha
    rw [upd_ne (by rintro rfl; exact n0 ha)]
    exact r.rs a ha
  · intro i d h
    obtain ⟨u, h1, h2⟩ := r.sh i d h
    exact ⟨u, h1, h2.up s⟩
  · intro i fl d h hf
    obtain ⟨q, h1, h2, h3, h4, c⟩ := r.ow i fl d h hf
    have np : q ≠ p := fun z => no i fl d h hf (z ▸ h1)
    refine ⟨q, h1, by rw [upd_ne np]; exact h2, h3, h4, ?_⟩
    cases c with
    | l c => exact .l (c.up s)
    | obj z0 zk a b c d e f gg =>
      refine .obj z0 zk a b ?_ d e (f.up s) gg
      rw [upd_ne]
      · exact c
      · rintro rfl
        rcases a with ⟨_, _, z⟩ | ⟨_, z⟩
        · rw [ho] at z; exact hm.1 _ (Option.some.inj z)
        · rw [ho] at z; exact hm.2 (Option.some.inj z)
  · cases c with
    | lst a b =>
      rw [a] at ho; cases ho
      exact .lst upd_same (b.up s)
    | dct a b =>
      rw [a] at ho; cases ho
      exact .dct (.inl upd_same) (b.up s)
theorem VRep.settle (r : Rel C G Rs F H σ e) {vl : VL} (h : VRep C G Rs F H σ e v vl) : ∃ F', Sub F F' ∧ Rel C G Rs F' H σ e ∧ VRep C G Rs F' H σ e v vl.set := by
  cases vl with
  | fz d => exact ⟨F, Sub.refl, r, h⟩
  | pk i => exact ⟨F, Sub.refl, r, h⟩
  | fr d =>
    obtain ⟨p, rfl, f0, n0, g0, c, no⟩ := h
    exact r.frz1 c f0 n0 no
/-- a slot that was one's own is shared from now on -/
theorem Rel.share {i : Nat} {d : D} {p : Addr} (r : Rel C G Rs F H σ e) (hi : e[i]? = some (some (Fl.ow, d))) (c : ConL C F H p d) (hp : σ[i]? = some (some (V.ref p))) (f0 : F p = none) (n0 : ¬ Rs p) :
    ∃ F', Sub F F' ∧ Rel C G Rs F' H σ (e.set i (some (Fl.sh, d))) ∧ Rep C F' (.ref p) d := by
  obtain ⟨hil, _⟩ := List.getElem?_eq_some_iff.mp hi
  have r0 : Rel C G Rs F H σ (e.set i none) := by
    refine ⟨by rw [List.length_set]; exact r.len, r.fh, r.gh, r.rs, fun j d h => ?_, fun j fl d h hf => ?_, fun j k fi fj di dj q hjk h1 h2 h3 h4 => ?_⟩
    · by_cases q : i = j
      · subst q; rw [List.getElem?_set_self hil] at h; cases h
      · rw [List.getElem?_set_ne q] at h; exact r.sh j d h
    · by_cases q : i = j
      · subst q; rw [List.getElem?_set_self hil] at h; cases h
      · rw [List.getElem?_set_ne q] at h; exact r.ow j fl d h hf
    · have a : ∀ {j : Nat} {fl : Fl} {d : D}, (e.set i none)[j]? = some (some (fl, d)) → e[j]? = some (some (fl, d)) := fun {j fl d} h => by
        by_cases q : i = j
        · subst q; rw [List.getElem?_set_self hil] at h; cases h
        · rw [List.getElem?_set_ne q] at h; exact h
      exact r.inj j k fi fj di dj q hjk (a h1) h2 (a h3) h4
  obtain ⟨F', s, r', h'⟩ := r0.frz1 c f0 n0 fun j fl d' h1 h2 h3 => by
    by_cases q : i = j
    · subst q; rw [List.getElem?_set_self hil] at h1; cases h1
    · rw [List.getElem?_set_ne q] at h1
      exact r.inj i j _ _ _ _ p q hi (by decide) h1 h2 hp h3
  refine ⟨F', s, ⟨by rw [List.length_set]; exact r.len, r'.fh, r'.gh, r'.rs, fun j d' h => ?_, fun j fl d' h hf => ?_, fun j k fi fj di dj q hjk h1 h2 h3 h4 => ?_⟩, h'⟩
  · by_cases q : i = j
    · subst q
      rw [List.getElem?_set_self hil] at h; cases h
      exact ⟨_, hp, h'⟩
    · rw [List.getElem?_set_ne q] at h
      exact r'.sh j d' (by rw [List.getElem?_set_ne q]; exact h)
  · by_cases q : i = j
    · subst q
      rw [List.getElem?_set_self hil] at h; cases h
      exact absurd rfl hf
    · rw [List.getElem?_set_ne q] at h
      exact r'.ow j fl d' (by rw [List.getElem?_set_ne q]; exact h) hf
  · have a : ∀ {j : Nat} {fl : Fl} {d0 : D}, fl ≠ Fl.sh → (e.set i (some (Fl.sh, d)))[j]? = some (some (fl, d0)) → e[j]? = some (some (fl, d0)) := fun {j fl d0} hf h => by
      by_cases q : i = j
      · subst q; rw [List.getElem?_set_self hil] at h; cases h; exact absurd rfl hf
      · rw [List.getElem?_set_ne q] at h; exact h
    exact r.inj j k fi fj di dj q hjk (a h2 h1) h2 (a h4 h3) h4
/-- frozen for good -/
theorem VRep.frozen (r : Rel C G Rs F H σ e) {vl : VL} {d : D} {e' : Nv} (h : VRep C G Rs F H σ e v vl) (z : fzv e vl = some (d, e')) :
    ∃ F', Sub F F' ∧ Rel C G Rs F' H σ e' ∧ Rep C F' v d := by
  cases vl with
  | fz d => cases z; exact ⟨F, Sub.refl, r, h⟩
  | fr d =>
    cases z
    obtain ⟨p, rfl, f0, n0, g0, c, no⟩ := h
    exact r.frz1 c f0 n0 no
  | pk i =>
    have h : σ[i]? = some (some v) := h
    simp only [fzv] at z
    split at z
    · rename_i d' e1
      cases z
      obtain ⟨p, e2, f0, n0, g0, c⟩ := r.ow i _ d e1 (by decide)
      rw [h] at e2; cases e2
      cases c with
      | l c => exact r.share e1 c h f0 n0
      | obj a b c d e f => cases a
    · rename_i d' e1
      cases z
      obtain ⟨u, e2, h2⟩ := r.sh i d e1
      rw [h] at e2; cases e2
      exact ⟨F, Sub.refl, r, h2⟩
    · cases z
/-- all that stood stands -/
theorem Rel.keep (r : Rel C G Rs F H σ e) (k : Sub H H') : Rel C G Rs F H' σ e := by
  have kk : ∀ {a : Addr}, H a ≠ none → H' a = H a := fun {a} h => by
    cases q : H a with
    | none => exact absurd q h
    | some o => exact k a o q
  refine ⟨r.len, r.fh.trans k, r.gh.trans k, fun a h => ⟨(r.rs a h).1, by rw [kk (r.rs a h).2]; exact (r.rs a h).2⟩, r.sh, fun i fl d h hf => ?_, r.inj⟩
  obtain ⟨p, h1, h2, h3, h4, c⟩ := r.ow i fl d h hf
  refine ⟨p, h1, h2, h3, h4, ?_⟩
  cases c with
  | l c => exact .l (c.at (kk c.there))
  | obj z zk a b c d e f gg => exact .obj z zk (a.at (kk a.there.1) (kk a.there.2)) b c d e f gg
/-- a new thing, frozen at once -/
theorem Rel.laid {p : Addr} {o : HO} (r : Rel C G Rs F H σ e) (n : H p = none) : Sub F (upd F p o) ∧ Rel C G Rs (upd F p o) (upd H p o) σ e := by
  have nF : F p = none := by
    cases q : F p with
    | none => rfl
    | some u => rw [r.fh _ _ q] at n; cases n
  have s : Sub F (upd F p o) := .upd nF
  have r' := r.keep (H' := upd H p o) (.upd n)
  refine ⟨s, r'.len, r.fh.upd2, r'.gh, fun a h => ⟨?_, (r'.rs a h).2⟩, fun i d h => ?_, fun i fl d h hf => ?_, r.inj⟩
  · rw [upd_ne (by rintro rfl; exact (r.rs _ h).2 n)]
    exact (r.rs a h).1
  · obtain ⟨u, h1, h2⟩ := r.sh i d h
    exact ⟨u, h1, h2.up s⟩
  · obtain ⟨q, h1, h2, h3, h4, c⟩ := r.ow i fl d h hf
    have np : q ≠ p := by rintro rfl; exact c.there n
    refine ⟨q, h1, by rw [upd_ne np]; exact h2, h3, h4, ?_⟩
    cases c with
    | l c => exact .l ((c.at (upd_ne np)).up s)
    | obj z zk a b c d e f gg =>
      have nx : ∀ {dx : Addr}, H dx ≠ none → dx ≠ p := fun {dx} h => by rintro rfl; exact h n
      exact .obj z zk (a.at (upd_ne np) (upd_ne (nx a.there.2))) b (by rw [upd_ne (nx a.there.2)]; exact c) d e (f.up s) gg
/-- what an operation makes -/
inductive NewV (C : Ct) (F H : Hp) : V → Bool × D → Hp → Prop
  | old {v : V} {d : D} : Rep C F v d → NewV C F H v (false, d) H
  | tup {q : Addr} {xs : List V} {ds : List D} : H q = none → RepL C F xs ds → NewV C F H (.ref q) (false, .tup ds) (upd H q (.tup xs))
  | lst {q : Addr} {xs : List V} {ds : List D} : H q = none → RepL C F xs ds → NewV C F H (.ref q) (true, .lst ds) (upd H q (.lst xs))
  | dct {q : Addr} {xs : List (Key × V)} {ds : List (Key × D)} : H q = none → RepK C F xs ds → NewV C F H (.ref q) (true, .dct ds) (upd H q (.dK xs))
theorem Rel.fresh {p : Addr} (r : Rel C G Rs F H σ e) (n : H p = none) : F p = none ∧ ¬ Rs p ∧ G p = none ∧ ∀ (i : Nat) (fl : Fl) (d' : D), e[i]? = some (some (fl, d')) → fl ≠ Fl.sh → σ[i]? ≠ some (some (V.ref p)) := by
  refine ⟨?_, fun h => (r.rs p h).2 n, ?_, fun i fl d h hf z => ?_⟩
  · cases q : F p with
    | none => rfl
    | some u => rw [r.fh _ _ q] at n; cases n
  · cases q : G p with
    | none => rfl
    | some u => rw [r.gh _ _ q] at n; cases n
  · obtain ⟨q, h1, _, _, _, c⟩ := r.ow i fl d h hf
    rw [z] at h1; cases h1
    exact c.there n
theorem NewV.ok {p : Bool × D} (r : Rel C G Rs F H σ e) (n : NewV C F H v p H') : ∃ F', Sub F F' ∧ Rel C G Rs F' H' σ e ∧ VRep C G Rs F' H' σ e v (rof p) := by
  cases n with
  | old h => exact ⟨F, Sub.refl, r, h⟩
  | tup n h =>
    obtain ⟨s, r'⟩ := r.laid n
    exact ⟨_, s, r', .tup (SqT.of upd_same) (h.up s)⟩
  | lst n h =>
    obtain ⟨f0, n0, g0, no⟩ := r.fresh n
    exact ⟨F, Sub.refl, r.keep (.upd n), _, rfl, f0, n0, g0, .lst upd_same h, no⟩
  | dct n h =>
    obtain ⟨f0, n0, g0, no⟩ := r.fresh n
    exact ⟨F, Sub.refl, r.keep (.upd n), _, rfl, f0, n0, g0, .dct upd_same h, no⟩
/-- one's own list is changed -/
theorem Rel.write {i : Nat} {fl : Fl} {d d' : D} {p : Addr} {o : HO} (r : Rel C G Rs F H σ e) (hi : e[i]? = some (some (fl, d))) (hf : fl ≠ Fl.sh) (hp : σ[i]? = some (some (V.ref p))) (c0 : ConL C F H p d)
    (c : ConL C F (upd H p o) p d') : Rel C G Rs F (upd H p o) σ (e.set i (some (fl, d'))) := by
  obtain ⟨hil, _⟩ := List.getElem?_eq_some_iff.mp hi
  obtain ⟨p', h1, f0, n0, g0, _⟩ := r.ow i fl d hi hf
  rw [hp] at h1; cases h1
  refine ⟨by rw [List.length_set]; exact r.len, r.fh.updR f0, r.gh.updR g0, fun a h => ⟨(r.rs a h).1, ?_⟩, fun j d0 h => ?_, fun j fj d0 h hf => ?_, fun j k fi fj di dj q hjk h1 h2 h3 h4 => ?_⟩
  · rw [upd_ne (by rintro rfl; exact n0 h)]
    exact (r.rs a h).2
  · by_cases q : i = j
    · subst q
      rw [List.getElem?_set_self hil] at h; cases h
      exact absurd rfl hf
    · rw [List.getElem?_set_ne q] at h
      exact r.sh j d0 h
  · by_cases q : i = j
    · subst q
      rw [List.getElem?_set_self hil] at h; cases h
      exact ⟨p, hp, f0, n0, g0, .l c⟩
    · rw [List.getElem?_set_ne q] at h
      obtain ⟨u, h1, h2, h3, h4, co⟩ := r.ow j fj d0 h hf
      have np : u ≠ p := by
        rintro rfl
        exact r.inj i j _ _ _ _ _ q hi (by assumption) h hf hp h1
      refine ⟨u, h1, h2, h3, h4, ?_⟩
      cases co with
      | l co => exact .l (co.at (upd_ne np))
      | obj z zk a b c d e f gg =>
        refine .obj z zk (a.at (upd_ne np) (upd_ne ?_)) b c d e f gg
        rintro rfl
        cases c0 with
        | lst y _ =>
          rcases a with ⟨_, _, x⟩ | ⟨_, x⟩
          · rw [x] at y; cases y
          · rw [x] at y; cases y
        | dct y _ =>
          rcases a with ⟨_, _, x⟩ | ⟨_, x⟩
          · rw [x] at y; cases y
          · rw [x] at y; cases y
  · have a : ∀ {j : Nat} {f0 : Fl} {d0 : D}, (e.set i (some (fl, d')))[j]? = some (some (f0, d0)) → ∃ d1, e[j]? = some (some (f0, d1)) := fun {j f0 d0} h => by
      by_cases q : i = j
      · subst q; rw [List.getElem?_set_self hil] at h; cases h; exact ⟨_, hi⟩
      · rw [List.getElem?_set_ne q] at h; exact ⟨_, h⟩
    obtain ⟨_, a1⟩ := a h1
    obtain ⟨_, a2⟩ := a h3
    exact r.inj j k fi fj _ _ q hjk a1 h2 a2 h4
end
end RT

set_option Elab.async false
set_option linter.all false
set_option maxRecDepth 100000
/-! CoreD: operations by values. -/
namespace RT
open PySem PySem.Spec PyProof.Rows L2

theorem lim_eq : (lim : Nat) = sizeLine := by rw [sizeLine_eq]
section
variable {C : Ct} {F H H' : Hp} {X : Cx} {v : V}
theorem i64_ok {i : Int} (h : i64 i = true) : -(2 ^ 64) < i ∧ i < 2 ^ 64 := by
  unfold i64 at h
  simpa using h
theorem op_pow2 : OpR X (binaryOp .Pow) (rI (fun i j => 0 ≤ j ∧ (i.natAbs.log2 + 1) * j.toNat ≤ 134217728) fun i j => .int (i ^ j.toNat)) := opI fun i j _ _ _ _ _ hc q => by
  refine pow_int hc.1 ?_ q
  have b : Builtin.Int.intBits i ≤ i.natAbs.log2 + 1 := by
    unfold Builtin.Int.intBits
    split <;> omega
  have h1 : Builtin.Int.intBits i * j.toNat ≤ 134217728 := Nat.le_trans (Nat.mul_le_mul_right _ b) hc.2
  have h2 : (j : Int) = (j.toNat : Int) := by omega
  rw [h2, ← Int.natCast_mul]
  have h3 : (2 : Int) ^ 27 = ((134217728 : Nat) : Int) := by decide
  rw [h3]
  exact Int.ofNat_le.mpr h1
/-- t * k that is t itself -/
theorem tuple_mulS (l : Addr) (items : Array Value) (n : Nat) (dd : Option Addr) (sl : Array (Option Value)) (x : Int) (u : Tok) (c0 : (decide (x < -(2 ^ 63)) || decide (x ≥ 2 ^ 63)) = false) (c1 : (items.isEmpty || x == 1) = true) :
    Meets (Builtin.«tuple.__mul__» ⟨[.ref l, .int x u], []⟩) (fun _ Z s => s.heap.get? l = some { cls := .type "tuple", dict := dd, data := .seq items n, slots := sl } ∧ Z (.ok (.ret (Value.ref l))) s) :=
  .of_wp fun prog w A Z s h => by
    obtain ⟨hp, g, d, tk, os⟩ := s
    obtain ⟨hl, h⟩ := h
    have f1 := AutoSeq1.idx_int
    wp_walk using wpAny_loadPart' hl
    repeat (first
      | (refine wpAny_ite_false (decide_eq_false (by rw [c0]; exact Bool.false_ne_true)) ?_; wp_walk using wpAny_loadPart' hl)
      | (refine wpAny_ite_true (decide_eq_true (by rw [c1])) ?_; wp_walk using wpAny_loadPart' hl))
    exact ⟨_, rfl, h⟩
/-- t * k that is nothing -/
theorem tuple_mulZ (l : Addr) (items : Array Value) (n : Nat) (dd : Option Addr) (sl : Array (Option Value)) (x : Int) (u : Tok) (c0 : (decide (x < -(2 ^ 63)) || decide (x ≥ 2 ^ 63)) = false) (c1 : (items.isEmpty || x == 1) = false) (c2 : (decide (x ≤ 0) || items.isEmpty) = true) :
    Meets (Builtin.«tuple.__mul__» ⟨[.ref l, .int x u], []⟩) (fun _ Z s => s.heap.get? l = some { cls := .type "tuple", dict := dd, data := .seq items n, slots := sl } ∧
      Z (.ok (.ret (Value.ref s.heap.objs.size))) { s with heap := s.heap.push { cls := Value.type "tuple", data := Data.seq #[] }, toks := s.toks }) :=
  .of_wp fun prog w A Z s h => by
    obtain ⟨hp, g, d, tk, os⟩ := s
    obtain ⟨hl, h⟩ := h
    have f1 := AutoSeq1.idx_int
    wp_walk using wpAny_loadPart' hl
    repeat (first
      | (refine wpAny_ite_false (decide_eq_false (by rw [c0]; exact Bool.false_ne_true)) ?_; wp_walk using wpAny_loadPart' hl)
      | (refine wpAny_ite_false (decide_eq_false (by rw [c1]; exact Bool.false_ne_true)) ?_; wp_walk using wpAny_loadPart' hl)
      | (refine wpAny_ite_true (decide_eq_true (by rw [c2])) ?_; wp_walk using wpAny_loadPart' hl))
    exact ⟨_, rfl, h⟩
/-- tuple * int -/
def rMulT (K : PySem.W.Frag) : R2 := fun x y H Q => ∃ l k xs, x = .ref l ∧ y = .int k ∧ SqT K H l xs ∧ -(2 ^ 63) ≤ k ∧ k < 2 ^ 63 ∧ xs.length * k.toNat ≤ lim ∧
  (xs = [] ∨ k = 1 → Q (.ref l) H) ∧ (¬ (xs = [] ∨ k = 1) → ∀ p, H p = none → Q (.ref p) (upd H p (.tup (List.replicate k.toNat xs).flatten)))
theorem op_mulT : OpR X (binaryOp .Mult) (rMulT X.K) := by
  intro pins s σ H x y v u Q I rx ry h
  obtain ⟨l, k, xs, rfl, rfl, hT, k0, k1, hz, q1, q2⟩ := h
  cases rx
  obtain ⟨t, rfl⟩ := ry
  obtain ⟨its, r, ⟨⟨cls, dd, data, sl⟩, ho, hc, n, hd⟩, hs⟩ := I.tuple hT
  simp only at hc hd
  subst hc hd
  have hle : its.length = xs.length := r.length.symm
  have hE : its.toArray.isEmpty = decide (xs = []) := by
    cases its with
    | nil => cases r; rfl
    | cons a b => cases r; rfl
  have c0 : (decide (k < -(2 ^ 63)) || decide (k ≥ 2 ^ 63)) = false := by
    rw [decide_eq_false (by omega), decide_eq_false (by omega), Bool.or_false]
  by_cases e1 : xs = [] ∨ k = 1
  · have c1 : (its.toArray.isEmpty || k == 1) = true := by
      rw [hE]
      rcases e1 with e | e
      · rw [decide_eq_true e, Bool.true_or]
      · rw [e]; simp
    exact wpAny_binaryOp_repeat_ref (T := "tuple") (U := "int") (by decide) ⟨_, ho, rfl⟩
      (fun s' => typeIs_int s' k t) noFill_tuple_mul F.fills_int_mul F.slot_int_rmul
      repeat_tuple F.slot_int_index.lookup
      (call_meets F.slot_int_rmul (typeIs_int s k t) F.entry_int_rmul (F.args_int_rmul_2 _ _)
        (int_rmul_tuple k t l its.toArray n dd sl)
        ⟨ho, rfl, ⟨_, ho, rfl⟩, call_meets F.slot_tuple_mul ⟨_, ho, rfl⟩ F.entry_tuple_mul
          (F.args_tuple_mul_2 _ _) (tuple_mulS l its.toArray n dd sl k t c0 c1) ⟨ho, ⟨.ref l, H, I, rfl, q1 e1⟩⟩⟩)
  · have c1 : (its.toArray.isEmpty || k == 1) = false := by
      rw [hE, decide_eq_false (fun e => e1 (.inl e)), Bool.false_or]
      exact beq_eq_false_iff_ne.mpr (fun e => e1 (.inr e))
    have i0 : its.toArray.isEmpty = false := (Bool.or_eq_false_iff.mp c1).1
    by_cases e2 : k ≤ 0
    · have c2 : (decide (k ≤ 0) || its.toArray.isEmpty) = true := by rw [decide_eq_true e2, Bool.true_or]
      have kz : k.toNat = 0 := by omega
      have q2' := q2 e1
      rw [kz] at q2'
      refine wpAny_binaryOp_repeat_ref (T := "tuple") (U := "int") (by decide) ⟨_, ho, rfl⟩
        (fun s' => typeIs_int s' k t) noFill_tuple_mul F.fills_int_mul F.slot_int_rmul
        repeat_tuple F.slot_int_index.lookup
        (call_meets F.slot_int_rmul (typeIs_int s k t) F.entry_int_rmul (F.args_int_rmul_2 _ _)
          (int_rmul_tuple k t l its.toArray n dd sl)
          ⟨ho, rfl, ⟨_, ho, rfl⟩, call_meets F.slot_tuple_mul ⟨_, ho, rfl⟩ F.entry_tuple_mul
            (F.args_tuple_mul_2 _ _) (tuple_mulZ l its.toArray n dd sl k t c0 c1 c2) ⟨ho, ?_⟩⟩)
      refine ⟨.ref s.heap.objs.size, _, I.laid (t' := s.toks) (o := .tup []) (fun b ob q => Heap.get?_push_of_some _ q) (Nat.le_refl _) ?_, rfl, q2' _ (I.hok.fresh (Nat.le_refl _))⟩
      exact ⟨Nat.zero_le _, [], .nil, IsTup.new _ _⟩
    · have c2 : (decide (k ≤ 0) || its.toArray.isEmpty) = false := by
        rw [i0, Bool.or_false]
        exact decide_eq_false e2
      have hl := lim_eq
      have hsz0 : its.toArray.size = xs.length := by rw [List.size_toArray, hle]
      have hm : ((its.toArray.size : Nat) : Int) * k ≤ 16777216 := by
        rw [hsz0]
        have a1 : k = (k.toNat : Int) := by omega
        rw [a1, ← Int.natCast_mul]
        exact Int.ofNat_le.mpr hz
      have c4 : Builtin.Tuple.tupleTooMany (((its.toArray.size : Nat) : Int) * k) = false := by
        unfold Builtin.Tuple.tupleTooMany
        rw [sizeLine_eq]
        exact decide_eq_false (by omega)
      have fl : (List.replicate k.toNat its).flatten.length ≤ sizeLine := by
        rw [PyProof.Rows.lm_len_rep_flat, hle, ← lim_eq, Nat.mul_comm]
        exact hz
      refine wpAny_binaryOp_repeat_ref (T := "tuple") (U := "int") (by decide) ⟨_, ho, rfl⟩
        (fun s' => typeIs_int s' k t) noFill_tuple_mul F.fills_int_mul F.slot_int_rmul
        repeat_tuple F.slot_int_index.lookup
        (call_meets F.slot_int_rmul (typeIs_int s k t) F.entry_int_rmul (F.args_int_rmul_2 _ _)
          (int_rmul_tuple k t l its.toArray n dd sl)
          ⟨ho, rfl, ⟨_, ho, rfl⟩, call_meets F.slot_tuple_mul ⟨_, ho, rfl⟩ F.entry_tuple_mul
            (F.args_tuple_mul_2 _ _) (tuple_mulW l its.toArray n dd sl k t c0 c1 c2 (by omega) c4 (by rw [size_rep, List.size_toArray]; exact fl)) ⟨ho, ?_⟩⟩)
      rw [size_rep]
      refine ⟨.ref s.heap.objs.size, _, I.laid (t' := s.toks) (o := .tup (List.replicate k.toNat xs).flatten) (fun b ob q => Heap.get?_push_of_some _ q) (Nat.le_refl _) ?_, rfl, q2 e1 _ (I.hok.fresh (Nat.le_refl _))⟩
      exact ⟨by rw [PyProof.Rows.lm_len_rep_flat, Nat.mul_comm, ← lim_eq]; exact hz, _, r.rep k.toNat, IsTup.new _ _⟩

/-- an operator over data -/
def rBin (C : Ct) (op : Bop) : R2 := fun x y H Q => ∃ F dx dy p, Sub F H ∧ Insp C F H x dx ∧ Insp C F H y dy ∧ binop op dx dy = some p ∧ ∀ v H', NewV C F H v p H' → Q v H'
theorem rep_flat {vs : List V} {ds : List D} (h : RepL C F vs ds) (k : Int) : RepL C F (List.replicate k.toNat vs).flatten (repI k ds) := h.flat _
theorem op_bin (hK : X.K = C.K) (op : Bop) : OpR X (binaryOp (opr op)) (rBin C op) := by
  intro pins s σ H x y v u Q I rx ry h
  obtain ⟨F, dx, dy, p, sF, hx, hy, hp, q⟩ := h
  have hl := lim_eq
  unfold binop at hp
  split at hp
  · cases hp; cases hx.int; cases hy.int
    exact op_add _ _ _ _ _ _ _ _ _ I rx ry ⟨_, _, rfl, rfl, q _ _ (.old (.int _))⟩
  · split at hp
    · rename_i hz
      cases hp; cases hx.str; cases hy.str
      exact op_add_str _ _ _ _ _ _ _ _ _ I rx ry ⟨_, _, rfl, rfl, by omega, q _ _ (.old (.str _))⟩
    · cases hp
  · split at hp
    · rename_i xs ys hz
      cases hp
      obtain ⟨a, vs, rfl, h1, r1⟩ := hx.tup sF
      obtain ⟨b, ws, rfl, h2, r2⟩ := hy.tup sF
      rw [← hK] at h1 h2
      have l1 := r1.length
      have l2 := r2.length
      refine op_catA _ _ _ _ _ _ _ _ _ I rx ry ⟨a, b, vs, ws, rfl, rfl, h1, h2, by omega, fun e => ?_, fun _ e => ?_, fun _ _ p' hp' => q _ _ (.tup hp' (r1.append r2))⟩
      · subst e
        cases r1
        cases hy with
        | rep z => exact q _ _ (.old z)
      · subst e
        cases r2
        rw [List.append_nil] at q
        cases hx with
        | rep z => exact q _ _ (.old z)
    · cases hp
  · split at hp
    · rename_i xs ys hz
      cases hp
      obtain ⟨a, vs, rfl, h1, r1⟩ := hx.lst' sF
      obtain ⟨b, ws, rfl, h2, r2⟩ := hy.lst' sF
      have l1 := r1.length
      have l2 := r2.length
      exact op_cat _ _ _ _ _ _ _ _ _ I rx ry ⟨a, b, vs, ws, rfl, rfl, h1, h2, by omega, fun p' hp' => q _ _ (.lst hp' (r1.append r2))⟩
    · cases hp
  · cases hp; cases hx.int; cases hy.int
    exact op_sub _ _ _ _ _ _ _ _ _ I rx ry ⟨_, _, rfl, rfl, q _ _ (.old (.int _))⟩
  · split at hp
    · rename_i hz
      cases hp; cases hx.int; cases hy.int
      refine op_mul _ _ _ _ _ _ _ _ _ I rx ry ⟨_, _, rfl, rfl, ?_, q _ _ (.old (.int _))⟩
      rcases Bool.or_eq_true_iff.mp hz with z | z
      · exact .inl (i64_ok z)
      · exact .inr (i64_ok z)
    · cases hp
  · split at hp
    · rename_i hz
      cases hp; cases hy.int
      obtain ⟨a, vs, rfl, h1, r1⟩ := hx.tup sF
      rw [← hK] at h1
      have l1 := r1.length
      simp only [Bool.and_eq_true, decide_eq_true_eq] at hz
      obtain ⟨⟨z1, z2⟩, z3⟩ := hz
      refine op_mulT _ _ _ _ _ _ _ _ _ I rx ry ⟨a, _, vs, rfl, rfl, h1, z2, z1, by rw [l1]; exact z3, fun e => ?_, fun _ p' hp' => q _ _ (.tup hp' (rep_flat r1 _))⟩
      cases hx with
      | rep z =>
        refine q _ _ (.old ?_)
        rcases e with e | e
        · subst e
          cases r1
          unfold repI
          have e3 : ∀ n, (List.replicate n ([] : List D)).flatten = [] := fun n => by simp
          rw [e3]
          exact z
        · subst e
          unfold repI
          simpa using z
    · cases hp
  · split at hp
    · rename_i hz
      cases hp; cases hy.int
      obtain ⟨a, vs, rfl, h1, r1⟩ := hx.lst' sF
      have l1 := r1.length
      simp only [Bool.and_eq_true, decide_eq_true_eq] at hz
      obtain ⟨⟨z1, z2⟩, z3⟩ := hz
      exact op_rep _ _ _ _ _ _ _ _ _ I rx ry ⟨a, _, vs, rfl, rfl, h1, z2, z1, by rw [l1, ← lim_eq]; exact z3, fun p' hp' => q _ _ (.lst hp' (rep_flat r1 _))⟩
    · cases hp
  · split at hp
    · rename_i hz
      cases hp; cases hx.int; cases hy.int
      exact op_mod _ _ _ _ _ _ _ _ _ I rx ry ⟨_, _, rfl, rfl, hz, q _ _ (.old (.int _))⟩
    · cases hp
  · split at hp
    · rename_i hz
      cases hp; cases hx.int; cases hy.int
      exact op_fdiv _ _ _ _ _ _ _ _ _ I rx ry ⟨_, _, rfl, rfl, hz, q _ _ (.old (.int _))⟩
    · cases hp
  · split at hp
    · rename_i hz
      cases hp; cases hx.int; cases hy.int
      exact op_pow2 _ _ _ _ _ _ _ _ _ I rx ry ⟨_, _, rfl, rfl, hz, q _ _ (.old (.int _))⟩
    · cases hp
  · cases hp

/-! ### comparisons -/
mutual
def pyD : D → PyData
  | .bl b => .bool b
  | .int i => .int i
  | .str x => .str x
  | .tup xs => .tuple (pyL xs)
  | .lst xs => .list (pyL xs)
  | _ => .none
def pyL : List D → List PyData
  | [] => []
  | x :: xs => pyD x :: pyL xs
end
theorem pyL_map : ∀ xs : List D, pyL xs = xs.map pyD
  | [] => rfl
  | x :: xs => by rw [pyL, List.map_cons, pyL_map xs]
theorem plain_lay : ∀ (n : Nat) (d : D), plainD n d = true → (pyD d).canLay0 = true ∧ (pyD d).depth ≤ n := by
  intro n
  induction n with
  | zero =>
    intro d h
    cases d <;> simp [plainD] at h <;> simp [pyD, PyData.canLay0, PyData.depth]
    exact h
  | succ n ih =>
    have al : ∀ xs : List D, xs.all (plainD n) = true → PyData.canLayAll0 (pyL xs) = true ∧ PyData.depthAll (pyL xs) ≤ n := by
      intro xs
      induction xs with
      | nil => intro _; simp [pyL, PyData.canLayAll0, PyData.depthAll]
      | cons x xs ih2 =>
        intro h
        rw [List.all_cons, Bool.and_eq_true] at h
        obtain ⟨a, b⟩ := ih x h.1
        obtain ⟨c, d⟩ := ih2 h.2
        simp only [pyL, PyData.canLayAll0, PyData.depthAll, a, c, Bool.and_self]
        exact ⟨trivial, by omega⟩
    intro d h
    cases d with
    | tup xs =>
      obtain ⟨a, b⟩ := al xs h
      simp only [pyD, PyData.canLay0, PyData.depth]
      exact ⟨a, by omega⟩
    | lst xs =>
      obtain ⟨a, b⟩ := al xs h
      simp only [pyD, PyData.canLay0, PyData.depth]
      exact ⟨a, by omega⟩
    | str x => exact ⟨h, Nat.zero_le _⟩
    | _ => first | exact ⟨rfl, Nat.zero_le _⟩ | cases h
theorem plain_shaped {n : Nat} {d : D} (h : plainD n d = true) (hn : n ≤ 64) : SeqAt.shaped (pyD d) = true := by
  obtain ⟨a, b⟩ := plain_lay n d h
  show ((pyD d).canLay0 && decide ((pyD d).depth ≤ 64)) = true
  rw [a, decide_eq_true (by omega)]; rfl
mutual
theorem deq_py : ∀ (n m : Nat) (a b : D), plainD n a = true → plainD m b = true → PyData.eqv (pyD a) (pyD b) = deq a b
  | n, m, .tup xs, b, ha, hb => by
    cases n with
    | zero => cases ha
    | succ n =>
      cases b with
      | tup ys =>
        cases m with
        | zero => cases hb
        | succ m => simp only [pyD, PyData.eqv, deq]; exact deqL_py n m xs ys ha hb
      | _ => first | (simp only [pyD, PyData.eqv, deq]; done) | (cases m <;> cases hb)
  | n, m, .lst xs, b, ha, hb => by
    cases n with
    | zero => cases ha
    | succ n =>
      cases b with
      | lst ys =>
        cases m with
        | zero => cases hb
        | succ m => simp only [pyD, PyData.eqv, deq]; exact deqL_py n m xs ys ha hb
      | _ => first | (simp only [pyD, PyData.eqv, deq]; done) | (cases m <;> cases hb)
  | n, m, .non, b, ha, hb => by cases b <;> first | (simp only [pyD, PyData.eqv, deq]; done) | (cases m <;> cases hb)
  | n, m, .bl _, b, ha, hb => by cases b <;> first | (simp only [pyD, PyData.eqv, deq]; done) | (cases m <;> cases hb)
  | n, m, .int _, b, ha, hb => by cases b <;> first | (simp only [pyD, PyData.eqv, deq]; done) | (cases m <;> cases hb)
  | n, m, .str _, b, ha, hb => by cases b <;> first | (simp only [pyD, PyData.eqv, deq]; done) | (cases m <;> cases hb)
  | n, _, .dct _, _, ha, _ => by cases n <;> cases ha
  | n, _, .obj _ _, _, ha, _ => by cases n <;> cases ha
  | n, _, .fn _, _, ha, _ => by cases n <;> cases ha
  | n, _, .ty _, _, ha, _ => by cases n <;> cases ha
  | n, _, .clo _ _, _, ha, _ => by cases n <;> cases ha
  | n, _, .exv _ _, _, ha, _ => by cases n <;> cases ha
  | n, _, .sls _, _, ha, _ => by cases n <;> cases ha
theorem deqL_py : ∀ (n m : Nat) (xs ys : List D), xs.all (plainD n) = true → ys.all (plainD m) = true → PyData.eqvAll (pyL xs) (pyL ys) = deqL xs ys
  | _, _, [], [], _, _ => by simp only [pyL, PyData.eqvAll, deqL]
  | _, _, [], _ :: _, _, _ => by simp only [pyL, PyData.eqvAll, deqL]
  | _, _, _ :: _, [], _, _ => by simp only [pyL, PyData.eqvAll, deqL]
  | n, m, x :: xs, y :: ys, ha, hb => by
    rw [List.all_cons, Bool.and_eq_true] at ha hb
    simp only [pyL, PyData.eqvAll, deqL]
    rw [deq_py n m x y ha.1 hb.1, deqL_py n m xs ys ha.2 hb.2]
end
mutual
theorem Rep.py (s : Sub F H) : ∀ (n : Nat) (d : D) (v : V), Rep C F v d → plainD n d = true → Dp C.K H v (pyD d)
  | _, .non, _, h, _ => by cases h; exact .non
  | _, .bl _, _, h, _ => by cases h; exact .bl _
  | _, .int _, _, h, _ => by cases h; exact .int _
  | _, .str _, _, h, _ => by cases h; exact .str _
  | n, .tup ds, _, h, p => by
    cases n with
    | zero => cases p
    | succ n => cases h with | tup h r => exact .tup (s.sqT h) (RepL.py s n ds _ r p)
  | n, .lst ds, _, h, p => by
    cases n with
    | zero => cases p
    | succ n => cases h with | lst h r => exact .lst (SqL.of (s _ _ h)) (RepL.py s n ds _ r p)
  | n, .dct _, _, _, p => by cases n <;> cases p
  | n, .obj _ _, _, _, p => by cases n <;> cases p
  | n, .fn _, _, _, p => by cases n <;> cases p
  | n, .ty _, _, _, p => by cases n <;> cases p
  | n, .clo _ _, _, _, p => by cases n <;> cases p
  | n, .exv _ _, _, _, p => by cases n <;> cases p
  | n, .sls _, _, _, p => by cases n <;> cases p
theorem RepL.py (s : Sub F H) : ∀ (n : Nat) (ds : List D) (vs : List V), RepL C F vs ds → ds.all (plainD n) = true → DpAll C.K H vs (pyL ds)
  | _, [], _, h, _ => by cases h; exact .nil
  | n, d :: ds, _, h, p => by
    rw [List.all_cons, Bool.and_eq_true] at p
    cases h with
    | cons h r => exact .cons (Rep.py s n d _ h p.1) (RepL.py s n ds _ r p.2)
end
theorem Insp.py {n : Nat} {d : D} (h : Insp C F H v d) (s : Sub F H) (p : plainD n d = true) : Dp C.K H v (pyD d) := by
  cases h with
  | rep h => exact h.py s n _ _ p
  | lst h r =>
    cases n with
    | zero => cases p
    | succ n => exact .lst (SqL.of h) (r.py s n _ _ p)
  | dct _ _ => cases n <;> cases p
  | obj _ _ _ => cases n <;> cases p
theorem any_py {n m : Nat} {a : D} (ha : plainD n a = true) : ∀ {xs : List D}, xs.all (plainD m) = true → ((pyL xs).any fun z => PyData.eqv z (pyD a)) = xs.any fun y => deq y a
  | [], _ => rfl
  | x :: xs, h => by
    rw [List.all_cons, Bool.and_eq_true] at h
    rw [pyL, List.any_cons, List.any_cons, deq_py m n x a h.1 ha, any_py ha h.2]
theorem op_inT (hu : X.A.units + 66 < cLine) : OpR X (compareOp .In) (fun x y H Q => ∃ d ds, Dp X.K H x d ∧ Dp X.K H y (.tuple ds) ∧ SeqAt.shaped d = true ∧ PyData.canLayAll0 ds = true ∧ Q (.bl (ds.any fun z => PyData.eqv z d)) H) := by
  intro pins s σ H x y v u Q I rx ry h
  obtain ⟨d, ds, hd, he, sd, se, q⟩ := h
  obtain ⟨as, r1⟩ := Dp.reads I d x v hd rx
  obtain ⟨bs, r2⟩ := Dp.reads I (.tuple ds) y u he ry
  exact SeqAt.in_tuple_reads r2 r1 se (SeqAt.canLay_of_shaped sd) (room_in_shaped sd (by omega)) ⟨.bl _, H, I, rfl, q⟩
theorem op_ninT (hu : X.A.units + 66 < cLine) : OpR X (compareOp .NotIn) (fun x y H Q => ∃ d ds, Dp X.K H x d ∧ Dp X.K H y (.tuple ds) ∧ SeqAt.shaped d = true ∧ PyData.canLayAll0 ds = true ∧ Q (.bl (!ds.any fun z => PyData.eqv z d)) H) := by
  intro pins s σ H x y v u Q I rx ry h
  obtain ⟨d, ds, hd, he, sd, se, q⟩ := h
  obtain ⟨as, r1⟩ := Dp.reads I d x v hd rx
  obtain ⟨bs, r2⟩ := Dp.reads I (.tuple ds) y u he ry
  exact SeqAt.notIn_tuple_reads r2 r1 se (SeqAt.canLay_of_shaped sd) (room_in_shaped sd (by omega)) ⟨.bl _, H, I, rfl, q⟩
theorem RepK.val {kvs : List (Key × V)} {ds : List (Key × D)} (h : RepK C F kvs ds) (k : Key) : (∀ d, getK ds k = some d → ∃ v, valV kvs k = some v ∧ Rep C F v d) ∧ (getK ds k = none → valV kvs k = none) := by
  induction ds generalizing kvs with
  | nil =>
    cases h
    exact ⟨fun d z => by simp [getK] at z, fun _ => rfl⟩
  | cons p ds ih =>
    obtain ⟨j, d0⟩ := p
    cases h with
    | cons h r =>
      by_cases e : j = k
      · subst e
        refine ⟨fun d z => ?_, fun z => ?_⟩
        · simp [getK] at z
          subst z
          exact ⟨_, valV_pos rfl, h⟩
        · simp [getK] at z
      · have e1 : getK ((j, d0) :: ds) k = getK ds k := by simp [getK, e]
        rw [e1, valV_neg e]
        exact ih r
theorem RepK.isSome {kvs : List (Key × V)} {ds : List (Key × D)} (h : RepK C F kvs ds) (k : Key) : (valV kvs k).isSome = (getK ds k).isSome := by
  cases e : getK ds k with
  | none => rw [(h.val k).2 e]; rfl
  | some d =>
    obtain ⟨v, e1, _⟩ := (h.val k).1 d e
    rw [e1]; rfl
theorem key_rep {d : D} {k : Key} (h : Insp C F H v d) (e : keyD d = some k) : v = kV k := by
  cases d <;> simp [keyD] at e
  · subst e; rw [h.int]; rfl
  · subst e; rw [h.str]; rfl
def rCmp (C : Ct) (op : Cop) : R2 := fun x y H Q => ∃ F dx dy b, Sub F H ∧ Insp C F H x dx ∧ Insp C F H y dy ∧ cmpop op dx dy = some b ∧ Q (.bl b) H
theorem ints_rep {vs : List V} {ds : List D} (r : RepL C F vs ds) (h : allI ds = true) : ∃ ns : List Int, ds = ns.map D.int ∧ vs = ns.map V.int := by
  induction ds generalizing vs with
  | nil => cases r; exact ⟨[], rfl, rfl⟩
  | cons d ds ih =>
    cases r with
    | cons h1 r =>
      rw [allI, List.all_cons, Bool.and_eq_true] at h
      obtain ⟨ns, e1, e2⟩ := ih r h.2
      cases d <;> first | (cases h1; exact ⟨_ :: ns, by rw [e1]; rfl, by rw [e2]; rfl⟩) | cases h.1
theorem lex_eq : ∀ ns ms : List Int, lexD (ns.map D.int) (ms.map D.int) = some (HT.lexLt ns ms)
  | [], [] => rfl
  | [], _ :: _ => rfl
  | _ :: _, [] => rfl
  | n :: ns, m :: ms => by
    simp only [List.map_cons, lexD, HT.lexLt_cons, lex_eq ns ms]
    split <;> rfl
theorem op_inA (hK : X.K = C.K) (hu : X.A.units + 70 < cLine) : OpR X (compareOp .In) (fun x y H Q => ∃ F dx dy b, Sub F H ∧ Insp C F H x dx ∧ Insp C F H y dy ∧ inop dx dy = some b ∧ Q (.bl b) H) := by
  intro pins s σ H x y v u Q I rx ry h
  obtain ⟨F, dx, dy, b, sF, hx, hy, hb, q⟩ := h
  cases dy <;> simp only [inop] at hb <;> try (cases hb; done)
  · rename_i z
    split at hb
    · cases hb; cases hx.str; cases hy.str
      exact op_in_str _ _ _ _ _ _ _ _ _ I rx ry ⟨_, _, rfl, rfl, q⟩
    · cases hb
  · rename_i xs
    split at hb
    · rename_i hz
      rw [Bool.and_eq_true] at hz
      cases hb
      have e := any_py (n := deep) (m := deep) hz.1 hz.2
      rw [← e] at q
      have dy := hy.py (n := deep + 1) sF hz.2
      exact op_inT (by omega) _ _ _ _ _ _ _ _ _ I rx ry ⟨_, _, by rw [hK]; exact hx.py sF hz.1, by rw [hK]; exact dy, plain_shaped hz.1 (by decide), (by have := (plain_lay (deep + 1) (.tup xs) hz.2).1; simpa [pyD, PyData.canLay0] using this), q⟩
    · cases hb
  · rename_i xs
    split at hb
    · rename_i hz
      rw [Bool.and_eq_true] at hz
      cases hb
      have e := any_py (n := deep) (m := deep) hz.1 hz.2
      rw [← e] at q
      have dy := hy.py (n := deep + 1) sF hz.2
      exact op_inD (by omega) _ _ _ _ _ _ _ _ _ I rx ry ⟨_, _, by rw [hK]; exact hx.py sF hz.1, by rw [hK]; exact dy, plain_shaped hz.1 (by decide), plain_shaped (n := deep + 1) (d := .lst xs) hz.2 (by decide), q⟩
    · cases hb
  · rename_i kvs
    cases e : keyD dx with
    | none => rw [e] at hb; cases hb
    | some k =>
      rw [e] at hb
      cases hb
      obtain ⟨a, ks, rfl, hr, r⟩ := hy.dct' sF
      obtain rfl := key_rep hx e
      cases ry
      have q : Q (.bl (getK kvs k).isSome) H := q
      rw [← r.isSome k] at q
      exact d_in (by omega) I (.inl ⟨ks, k, hr, rfl, rfl⟩) rx fun s' I' => ⟨.bl _, H, I', rfl, q⟩
theorem op_ninA (hK : X.K = C.K) (hu : X.A.units + 70 < cLine) : OpR X (compareOp .NotIn) (fun x y H Q => ∃ F dx dy b, Sub F H ∧ Insp C F H x dx ∧ Insp C F H y dy ∧ inop dx dy = some b ∧ Q (.bl (!b)) H) := by
  intro pins s σ H x y v u Q I rx ry h
  obtain ⟨F, dx, dy, b, sF, hx, hy, hb, q⟩ := h
  cases dy <;> simp only [inop] at hb <;> try (cases hb; done)
  · rename_i z
    split at hb
    · cases hb; cases hx.str; cases hy.str
      exact op_notin_str _ _ _ _ _ _ _ _ _ I rx ry ⟨_, _, rfl, rfl, q⟩
    · cases hb
  · rename_i xs
    split at hb
    · rename_i hz
      rw [Bool.and_eq_true] at hz
      cases hb
      have e := any_py (n := deep) (m := deep) hz.1 hz.2
      rw [← e] at q
      have dy := hy.py (n := deep + 1) sF hz.2
      exact op_ninT (by omega) _ _ _ _ _ _ _ _ _ I rx ry ⟨_, _, by rw [hK]; exact hx.py sF hz.1, by rw [hK]; exact dy, plain_shaped hz.1 (by decide), (by have := (plain_lay (deep + 1) (.tup xs) hz.2).1; simpa [pyD, PyData.canLay0] using this), q⟩
    · cases hb
  · rename_i xs
    split at hb
    · rename_i hz
      rw [Bool.and_eq_true] at hz
      cases hb
      have e := any_py (n := deep) (m := deep) hz.1 hz.2
      rw [← e] at q
      have dy := hy.py (n := deep + 1) sF hz.2
      exact op_notInD (by omega) _ _ _ _ _ _ _ _ _ I rx ry ⟨_, _, by rw [hK]; exact hx.py sF hz.1, by rw [hK]; exact dy, plain_shaped hz.1 (by decide), plain_shaped (n := deep + 1) (d := .lst xs) hz.2 (by decide), q⟩
    · cases hb
  · rename_i kvs
    cases e : keyD dx with
    | none => rw [e] at hb; cases hb
    | some k =>
      rw [e] at hb
      cases hb
      obtain ⟨a, ks, rfl, hr, r⟩ := hy.dct' sF
      obtain rfl := key_rep hx e
      cases ry
      have q : Q (.bl (!(getK kvs k).isSome)) H := q
      rw [← r.isSome k] at q
      exact d_notIn (by omega) I (.inl ⟨ks, k, hr, rfl, rfl⟩) rx fun s' I' => ⟨.bl _, H, I', rfl, q⟩
theorem non_dec {d : D} (h : Insp C F H v d) : decide (v = V.non) = isNon d := by
  cases h with
  | rep h => cases h <;> rfl
  | _ => rfl
theorem op_cmp (hK : X.K = C.K) (hu : X.A.units + 70 < cLine) (op : Cop) : OpR X (compareOp (cpr op)) (rCmp C op) := by
  intro pins s σ H x y v u Q I rx ry h
  obtain ⟨F, dx, dy, b, sF, hx, hy, hb, q⟩ := h
  unfold cmpop at hb
  split at hb
  · split at hb
    · rename_i hz
      rw [Bool.and_eq_true] at hz
      cases hb
      rw [← deq_py deep deep _ _ hz.1 hz.2] at q
      exact op_eqD (by omega) _ _ _ _ _ _ _ _ _ I rx ry ⟨_, _, by rw [hK]; exact hx.py sF hz.1, by rw [hK]; exact hy.py sF hz.2, plain_shaped hz.1 (by decide), plain_shaped hz.2 (by decide), q⟩
    · cases hb
  · split at hb
    · rename_i hz
      rw [Bool.and_eq_true] at hz
      cases hb
      rw [← deq_py deep deep _ _ hz.1 hz.2] at q
      exact op_neD (by omega) _ _ _ _ _ _ _ _ _ I rx ry ⟨_, _, by rw [hK]; exact hx.py sF hz.1, by rw [hK]; exact hy.py sF hz.2, plain_shaped hz.1 (by decide), plain_shaped hz.2 (by decide), q⟩
    · cases hb
  · cases hb; cases hx.int; cases hy.int
    exact op_lt _ _ _ _ _ _ _ _ _ I rx ry ⟨_, _, rfl, rfl, q⟩
  · cases hb; cases hx.int; cases hy.int
    exact op_le _ _ _ _ _ _ _ _ _ I rx ry ⟨_, _, rfl, rfl, q⟩
  · cases hb; cases hx.int; cases hy.int
    exact op_gt _ _ _ _ _ _ _ _ _ I rx ry ⟨_, _, rfl, rfl, q⟩
  · cases hb; cases hx.int; cases hy.int
    exact op_ge _ _ _ _ _ _ _ _ _ I rx ry ⟨_, _, rfl, rfl, q⟩
  · split at hb
    · rename_i hz
      rw [Bool.and_eq_true] at hz
      obtain ⟨a, vs, rfl, h1, r1⟩ := hx.tup sF
      obtain ⟨c, ws, rfl, h2, r2⟩ := hy.tup sF
      obtain ⟨ns, rfl, rfl⟩ := ints_rep r1 hz.1
      obtain ⟨ms, rfl, rfl⟩ := ints_rep r2 hz.2
      rw [lex_eq] at hb
      cases hb
      rw [← hK] at h1 h2
      exact op_ltT (by omega) _ _ _ _ _ _ _ _ _ I rx ry ⟨_, _, _, _, rfl, rfl, h1, h2, q⟩
    · cases hb
  · cases hb; cases hy.non
    rw [← non_dec hx] at q
    exact op_isN _ _ _ _ _ _ _ _ _ I rx ry ⟨rfl, q⟩
  · cases hb; cases hy.non
    rw [← non_dec hx] at q
    exact op_notN _ _ _ _ _ _ _ _ _ I rx ry ⟨rfl, q⟩
  · exact op_inA hK hu _ _ _ _ _ _ _ _ _ I rx ry ⟨F, _, _, b, sF, hx, hy, hb, q⟩
  · obtain ⟨b', e1, e2⟩ := Option.map_eq_some_iff.mp hb
    subst e2
    exact op_ninA hK hu _ _ _ _ _ _ _ _ _ I rx ry ⟨F, _, _, b', sF, hx, hy, e1, q⟩
  · cases hb
end
end RT

set_option Elab.async false
set_option linter.all false
set_option maxRecDepth 100000
set_option maxHeartbeats 4000000
/-! CoreSo: sorted of tuples of ints. -/
namespace SrtO
open PySem PyProof.Rows Srt
section
variable {prog : Program} {w : World} {A : Around} {E : Value → Shared → Prop} {s : Shared}
def IsRowI (h : Heap) (v : Value) (ns : List Int) : Prop := ∃ a o xs n, v = .ref a ∧ h.get? a = some o ∧ o.cls = .type "tuple" ∧ o.data = .seq xs n ∧ IntsAre xs.toList ns
def lexF (fin : Bool) : List Int → List Int → Bool
  | x :: a, y :: b => if x = y then lexF fin a b else decide (x < y)
  | _, _ => fin
theorem lexF_eq : ∀ a b : List Int, lexF (decide (a.length < b.length)) a b = RT.lexL a b
  | [], [] => rfl
  | [], _ :: _ => by simp [lexF, RT.lexL]
  | _ :: _, [] => by simp [lexF, RT.lexL]
  | x :: a, y :: b => by
    simp only [lexF, RT.lexL, List.length_cons, Nat.add_lt_add_iff_right, lexF_eq a b]
theorem kat_ints {fin : Bool} {Q : Bool → Shared → Prop} : ∀ {xs ys : List Value} {a b : List Int}, IntsAre xs a → IntsAre ys b → ∀ i, Q (lexF fin a b) s → PySem.W.KatLex prog w A true fin Q (xs.zip ys) i s
  | [], _, [], _, .nil, _, i, h => PySem.W.kat_nil (by cases ‹List Int› <;> exact h)
  | _ :: _, [], _ :: _, [], .cons _ _ _, .nil, i, h => PySem.W.kat_nil h
  | _ :: _, _ :: _, _ :: _, _ :: _, .cons x t r, .cons y u r', i, h => by
    refine PySem.W.kat_cons (SeqAt.EqAt.int_int x t y u prog w _ _ ?_)
    refine PySem.W.kat_go (fun e1 => ?_) (fun e1 => ?_)
    · have ex : x = y := by simpa using e1
      simp only [lexF, if_pos ex] at h
      exact PySem.W.kat_yes (kat_ints r r' (i + 1) h)
    · have ex : ¬ x = y := by simpa using e1
      simp only [lexF, if_neg ex] at h
      cases i with
      | zero => exact PySem.W.kat_no (oneLt_int h)
      | succ i => exact PySem.W.kat_no (PySem.W.kat_one _ _ (PyProof.Rows.lt_int h))
theorem rows_cmp {vs : List Value} {k : Value → List Int} (hp : ∀ v ∈ vs, IsRowI s.heap v (k v)) : Cmp prog w A s (tuples' true) (fun p => p.1 ∈ vs) (lt2 fun v u => RT.lexL (k v) (k u)) := by
  intro p q hm hm'
  obtain ⟨a, o, xs, n, e, ho, hc, hd, hi⟩ := hp _ hm
  obtain ⟨a', o', xs', n', e', ho', hc', hd', hi'⟩ := hp _ hm'
  show wpAny (model prog w) A (keyLt' (tuples' true) p.1 q.1) (fun r s' => s' = s ∧ r = RT.lexL (k p.1) (k q.1)) (fun _ _ => False) s
  generalize k p.1 = x at hi ⊢
  generalize k q.1 = y at hi' ⊢
  rw [e, e']
  refine PySem.W.kat_lt ho hd ho' hd' (kat_ints hi hi' 0 ⟨rfl, ?_⟩)
  rw [← Array.length_toList, ← Array.length_toList, hi.length, hi'.length, lexF_eq]
theorem IsRowI.keeps {h h' : Heap} {v : Value} {ns : List Int} (p : IsRowI h v ns) (k : ∀ b o, h.get? b = some o → o.cls = .type "tuple" → h'.get? b = some o) : IsRowI h' v ns := by
  obtain ⟨a, o, xs, n, e, ho, hc, hd, hi⟩ := p
  exact ⟨a, o, xs, n, e, k _ _ ho hc, hc, hd, hi⟩
theorem row_firsts {h : Heap} {k : Value → List Int} : ∀ {vs : List Value}, (∀ v ∈ vs, IsRowI h v (k v) ∧ k v ≠ []) → ∃ fs : List Value, PySem.W.KatTups h vs fs ∧ fs.length = vs.length ∧ ∀ f ∈ fs, ∃ x t, f = Value.int x t
  | [], _ => ⟨[], PySem.W.KatTups.nil, rfl, fun _ hm => by simp at hm⟩
  | v :: vs, hp => by
    obtain ⟨fs, h1, h2, h3⟩ := row_firsts (vs := vs) fun v' hm => hp v' (List.mem_cons_of_mem _ hm)
    obtain ⟨⟨a, o, xs, n, e, ho, hc, hd, hi⟩, ne⟩ := hp v List.mem_cons_self
    subst e
    generalize k (Value.ref a) = ns at hi ne
    obtain ⟨l⟩ := xs
    match l, ns, hi, ne with
    | _, _, .nil, ne => exact absurd rfl ne
    | _ :: l, _, .cons x t r, _ =>
      refine ⟨.int x t :: fs, PySem.W.KatTups.cons ho hc hd rfl h1, by rw [List.length_cons, List.length_cons, h2], fun f hm => ?_⟩
      rcases List.mem_cons.mp hm with rfl | hm
      · exact ⟨x, t, rfl⟩
      · exact h3 f hm
theorem rows_sortableO {a : Addr} {vs : List Value} {k : Value → List Int} (h0 : 0 < vs.length) (hp : ∀ v ∈ vs, IsRowI s.heap v (k v) ∧ k v ≠ []) (ha : ∀ o, s.heap.get? a = some o → o.cls ≠ .type "tuple") : SortableO prog w A s a vs fun v u => RT.lexL (k v) (k u) := by
  intro h' keep
  have hp' : ∀ v ∈ vs, IsRowI h' v (k v) ∧ k v ≠ [] := fun v hm => ⟨(hp v hm).1.keeps fun b o e c => keep b o (fun z => by subst z; exact ha o e c) e, (hp v hm).2⟩
  obtain ⟨fs, h1, h2, h3⟩ := row_firsts hp'
  refine ⟨tuples' true, fun Q E hq => ?_, rows_cmp fun v hm => (hp' v hm).1⟩
  refine PySem.W.kat_kind (T := .type "int") h1 (by omega) (fun f hm => ?_) (by rfl) ?_
  · obtain ⟨x, t, rfl⟩ := h3 f hm
    exact PySem.W.Looks.now
  · have e : (Value.type "int" != Value.type "tuple") = true := by first | decide +kernel | rfl | decide
    rw [e]
    exact hq
theorem swo_row {α : Type} (k : α → List Int) : Swo fun v u => RT.lexL (k v) (k u) := ⟨fun x y h => RT.lexL_asym _ _ h, fun x y z h1 h2 => RT.lexL_neg _ _ _ h2 h1⟩
theorem sorted_rowsO {l : Addr} {vs : List Value} {k : Value → List Int} {Q : Value → Shared → Prop} (hl : s.heap.IsList l vs.toArray) (hz : vs.length ≤ sizeLine) (hp : ∀ v ∈ vs, IsRowI s.heap v (k v) ∧ k v ≠ [])
    (h : ∀ (h' : Heap) (d : Addr) (out : List Value), Srtd (fun v u => RT.lexL (k v) (k u)) out → Stb (fun v u => RT.lexL (k v) (k u)) out vs → (∀ b o, s.heap.get? b = some o → h'.get? b = some o) → s.heap.objs.size ≤ d → (∃ n, h'.get? d = some (seqObj "list" out.toArray n)) → Q (.ref d) { s with heap := h' }) :
    wpAny (model prog w) A (call (.builtin "sorted") [.ref l]) Q E s := by
  refine sorted_ord (swo_row k) hl hz (fun h2 h₁ a ha kk => ?_) fun out hs hb => ?_
  · refine rows_sortableO (s := { s with heap := h₁ }) (by omega) (fun v hm => ⟨(hp v hm).1.keeps fun b o e _ => (kk b o e).2, (hp v hm).2⟩) fun o e => ?_
    have e' : some o = some (seqObj "list" vs.toArray 0) := e.symm.trans ha
    cases e'
    intro c
    exact absurd (Value.type.inj c) (by decide)
  · exact h _ _ out hs hb (fun b o e => sortedAll_old e) (Nat.le_succ _) (sortedAll_at s.heap vs out.toArray)
end
end SrtO
namespace L2
open PySem PySem.Spec PyProof.Rows
/-- sorted(xs), xs a list of tuples of ints that are not empty (k says which): a new list, sorted, equal ones in their order -/
def rSortedR (K : PySem.W.Frag) : List V → Hp → VK → Prop := fun vs H Q => ∃ (a : Addr) (xs : List V) (k : V → List Int), vs = [V.ref a] ∧ SqL K H a xs ∧ (∀ x ∈ xs, k x ≠ [] ∧ ∃ t, x = V.ref t ∧ SqT K H t ((k x).map V.int)) ∧
  ∀ ys p, SrtO.Srtd (fun x y => RT.lexL (k x) (k y)) ys → ys.Perm xs → H p = none → Q (.ref p) (upd H p (.lst ys))
section
variable {X : Cx}
theorem cr_sortedR : CallR X (.builtin "sorted") (rSortedR X.K) := by
  intro pins s σ H vs us Q I r h
  obtain ⟨a, xs, k, rfl, hs, hx, q⟩ := h
  obtain ⟨its, rv, hl, hz⟩ := I.list hs
  obtain ⟨u, rfl, ru⟩ := vals1 r
  obtain rfl : u = Value.ref a := ru
  obtain ⟨e1, e2⟩ := refs_back rv fun x m => by
    obtain ⟨_, t, e, _⟩ := hx x m
    exact ⟨t, e⟩
  refine SrtO.sorted_rowsO (k := fun u => k (backV u)) hl.isList (by rw [← rv.length]; exact hz) (fun v hv => ?_) fun h' d out h1 h2 kp hd hn => ?_
  · obtain ⟨t, rfl⟩ := e2 v hv
    have hm : V.ref t ∈ xs := by rw [e1]; exact List.mem_map.mpr ⟨_, hv, rfl⟩
    obtain ⟨ne, t', e, ht⟩ := hx _ hm
    cases e
    obtain ⟨its2, r2, ⟨o, ho, hc, n, hd⟩, _⟩ := I.tuple ht
    exact ⟨⟨t, o, its2.toArray, n, rfl, ho, hc, hd, r2.ints⟩, ne⟩
  · have h3 : ∀ u ∈ out, ∃ a, u = Value.ref a := fun u hu => e2 u (h2.perm.mem_iff.mp hu)
    obtain ⟨n, hn⟩ := hn
    have hb : (out.map backV).Perm xs := by
      rw [e1]
      exact h2.perm.map backV
    refine ⟨.ref d, upd H d (.lst (out.map backV)), I.laid (t' := s.toks) kp hd ⟨?_, out, n, vals_back h3, hn⟩, rfl, q _ d (SrtO.srtd_map h1) hb (I.hok.fresh hd)⟩
    rw [hb.length_eq]
    exact hz
end
end L2

set_option Elab.async false
set_option linter.all false
set_option maxRecDepth 100000
/-! CoreE: subscripts, slices, built-in calls by values. -/
namespace RT
open PySem PySem.Spec PyProof.Rows L2

section
variable {C : Ct} {F H H' : Hp} {X : Cx} {v : V}
theorem atD_eq (xs : List D) (i : Int) : atD xs i = atI xs i := by
  unfold atD atI ixN
  split
  · split <;> rfl
  · split <;> rfl
theorem RepL.atI {vs : List V} {ds : List D} {i : Int} {d : D} (r : RepL C F vs ds) (h : atD ds i = some d) : ∃ v, L2.atI vs i = some v ∧ Rep C F v d := by
  rw [atD_eq] at h
  unfold L2.atI at h ⊢
  rw [r.length]
  cases e : ixN ds.length i with
  | none => rw [e] at h; cases h
  | some j =>
    rw [e] at h
    exact r.get (i := j) h
theorem plainIx (b : Expr) (h : ∀ l u s p, b ≠ .Slice l u s p) : PlainIx b := by
  intro o i
  cases b <;> first | rfl | exact absurd rfl (h _ _ _ _)
def rIxA (C : Ct) : R2 := fun x y H Q => ∃ F dx dy d, Sub F H ∧ Insp C F H x dx ∧ Insp C F H y dy ∧ ixop dx dy = some d ∧ ∀ v, Rep C F v d → Q v H
theorem ix_any (hK : X.K = C.K) (hu : X.A.units + 70 < cLine) : IxR X (rIxA C) := by
  intro value slice pins s σ H x y v u Q I rx ry h hs
  obtain ⟨F, dx, dy, d, sF, hx, hy, hd, q⟩ := h
  have hl := lim_eq
  unfold ixop at hd
  split at hd
  · cases hy.int
    obtain ⟨a, vs, rfl, h1, r1⟩ := hx.lst' sF
    obtain ⟨w', e1, e2⟩ := r1.atI hd
    exact ix_list _ _ _ _ _ _ _ _ _ _ _ I rx ry ⟨a, vs, _, w', rfl, rfl, SqL.of h1, e1, q _ e2⟩ hs
  · cases hy.int
    obtain ⟨a, vs, rfl, h1, r1⟩ := hx.sls sF
    obtain ⟨w', e1, e2⟩ := r1.atI hd
    rw [← hK] at h1
    exact ix_list _ _ _ _ _ _ _ _ _ _ _ I rx ry ⟨a, vs, _, w', rfl, rfl, h1, e1, q _ e2⟩ hs
  · cases hy.int
    obtain ⟨a, vs, rfl, h1, r1⟩ := hx.tup sF
    obtain ⟨w', e1, e2⟩ := r1.atI hd
    rw [← hK] at h1
    exact ix_tup _ _ _ _ _ _ _ _ _ _ _ I rx ry ⟨a, vs, _, w', rfl, rfl, h1, e1, q _ e2⟩ hs
  · rename_i kvs
    obtain ⟨k, e1, e2⟩ := Option.bind_eq_some_iff.mp hd
    obtain ⟨a, ks, rfl, hr, r⟩ := hx.dct' sF
    obtain rfl := key_rep hy e1
    obtain ⟨w', e3, e4⟩ := (r.val k).1 d e2
    have g : DGet H a (kV k) (some w') := .inl ⟨ks, k, hr, rfl, e3.symm⟩
    cases rx
    exact tail_any (dict_typeIs I g) PySem.F.slot_dict_getitem.lookup (d_getItem (by omega) I g ry fun w2 s' I' r' => ⟨w', H, I', r', q _ e4⟩) hs
  · split at hd
    · rename_i z i hz
      cases hy.int; cases hx.str
      rw [atD_eq] at hd
      unfold atI at hd
      rw [List.length_map] at hd
      cases e : ixN z.cps.toList.length i with
      | none => rw [e] at hd; cases hd
      | some j =>
        rw [e] at hd
        have hd : (z.cps.toList.map fun c => D.str ⟨#[c]⟩)[j]? = some d := hd
        rw [List.getElem?_map] at hd
        obtain ⟨c, e1, e2⟩ := Option.map_eq_some_iff.mp hd
        subst e2
        exact ix_str _ _ _ _ _ _ _ _ _ _ _ I rx ry ⟨z, i, c, rfl, rfl, by omega, by unfold L2.atI; rw [e]; exact e1, q _ (.str _)⟩ hs
    · cases hd
  · cases hd
theorem clip_eq (n d : Nat) (o : Option Int) : clipI n d o = HT.sIx n d o := by cases o <;> rfl
theorem RepL.cut {vs : List V} {ds : List D} (r : RepL C F vs ds) (lo hi : Option Int) : RepL C F (cutV vs lo hi) (cutD ds lo hi) := by
  unfold cutV cutD
  rw [r.length, clip_eq, clip_eq]
  exact (r.drop _).take _
theorem cutD_all {ds : List D} {lo hi : Option Int} (h : HT.sIx ds.length 0 lo = 0 ∧ HT.sIx ds.length ds.length hi = ds.length) : cutD ds lo hi = ds := by
  unfold cutD
  rw [clip_eq, clip_eq, h.1, h.2]
  simp
def rSlAny (C : Ct) : V → Option Int → Option Int → Hp → VK → Prop := fun x lo hi H Q => ∃ F dx p, Sub F H ∧ Insp C F H x dx ∧ slop dx lo hi = some p ∧ ∀ v H', NewV C F H v p H' → Q v H'
theorem sl_any (hK : X.K = C.K) : SlR X (rSlAny C) := by
  intro pins s σ H x v vl vu lo hi sl Q I rx hs pl pu h
  obtain ⟨F, dx, p, sF, hx, hp, q⟩ := h
  cases dx <;> simp only [slop] at hp <;> try (cases hp; done)
  · cases hp
    obtain ⟨a, vs, rfl, h1, r1⟩ := hx.tup sF
    rw [← hK] at h1
    refine sl_tupA _ _ _ _ _ _ _ _ _ _ _ _ I rx hs pl pu ⟨a, vs, rfl, h1, fun e => ?_, fun _ p' hp' => q _ _ (.tup hp' (r1.cut lo hi))⟩
    rw [r1.length] at e
    rw [cutD_all e] at q
    cases hx with
    | rep z => exact q _ _ (.old z)
  · cases hp
    obtain ⟨a, vs, rfl, h1, r1⟩ := hx.lst' sF
    exact sl_list _ _ _ _ _ _ _ _ _ _ _ _ I rx hs pl pu ⟨a, vs, rfl, SqL.of h1, fun p' hp' => q _ _ (.lst hp' (r1.cut lo hi))⟩

/-! ### calls of built-ins -/
inductive InspL (C : Ct) (F H : Hp) : List V → List D → Prop
  | nil : InspL C F H [] []
  | cons {v : V} {d : D} {vs : List V} {ds : List D} : Insp C F H v d → InspL C F H vs ds → InspL C F H (v :: vs) (d :: ds)
def rBlt (C : Ct) (b : Blt) : List V → Hp → VK → Prop := fun xs H Q => ∃ F ds p, Sub F H ∧ InspL C F H xs ds ∧ bltop b ds = some p ∧ ∀ v H', NewV C F H v p H' → Q v H'
theorem bools_rep : ∀ {ds : List D} {bs : List Bool} {vs : List V}, boolsD ds = some bs → RepL C F vs ds → vs = bs.map V.bl
  | [], bs, vs, h, r => by cases h; cases r; rfl
  | d :: ds, bs, vs, h, r => by
    cases r with
    | cons h1 r =>
      cases d <;> simp only [boolsD] at h <;> try (cases h; done)
      obtain ⟨bs', e1, e2⟩ := Option.map_eq_some_iff.mp h
      subst e2
      cases h1
      rw [bools_rep e1 r]; rfl
theorem intsD_rep : ∀ {ds : List D} {bs : List Int} {vs : List V}, intsD ds = some bs → RepL C F vs ds → vs = bs.map V.int
  | [], bs, vs, h, r => by cases h; cases r; rfl
  | d :: ds, bs, vs, h, r => by
    cases r with
    | cons h1 r =>
      cases d <;> simp only [intsD] at h <;> try (cases h; done)
      obtain ⟨bs', e1, e2⟩ := Option.map_eq_some_iff.mp h
      subst e2
      cases h1
      rw [intsD_rep e1 r]; rfl
theorem maxI_in : ∀ (r : List Int) (m : Int), maxI m r ∈ m :: r ∧ ∀ y ∈ m :: r, y ≤ maxI m r
  | [], m => ⟨by simp [maxI], by intro y hy; simp at hy; subst hy; exact Int.le_refl _⟩
  | i :: r, m => by
    obtain ⟨h1, h2⟩ := maxI_in r (if m < i then i else m)
    unfold maxI
    split at h1 <;> rename_i hc <;> simp only [hc, if_true, if_false] at h2 ⊢
    · refine ⟨by simp at h1 ⊢; rcases h1 with h | h <;> simp [h], fun y hy => ?_⟩
      have := h2 i (by simp)
      simp at hy
      rcases hy with rfl | rfl | hy
      · omega
      · exact this
      · exact h2 y (by simp [hy])
    · refine ⟨by simp at h1 ⊢; rcases h1 with h | h <;> simp [h], fun y hy => ?_⟩
      have := h2 m (by simp)
      simp at hy
      rcases hy with rfl | rfl | hy
      · exact this
      · omega
      · exact h2 y (by simp [hy])
theorem minI_in : ∀ (r : List Int) (m : Int), minI m r ∈ m :: r ∧ ∀ y ∈ m :: r, minI m r ≤ y
  | [], m => ⟨by simp [minI], by intro y hy; simp at hy; subst hy; exact Int.le_refl _⟩
  | i :: r, m => by
    obtain ⟨h1, h2⟩ := minI_in r (if i < m then i else m)
    unfold minI
    split at h1 <;> rename_i hc <;> simp only [hc, if_true, if_false] at h2 ⊢
    · refine ⟨by simp at h1 ⊢; rcases h1 with h | h <;> simp [h], fun y hy => ?_⟩
      have := h2 i (by simp)
      simp at hy
      rcases hy with rfl | rfl | hy
      · omega
      · exact this
      · exact h2 y (by simp [hy])
    · refine ⟨by simp at h1 ⊢; rcases h1 with h | h <;> simp [h], fun y hy => ?_⟩
      have := h2 m (by simp)
      simp at hy
      rcases hy with rfl | rfl | hy
      · exact this
      · omega
      · exact h2 y (by simp [hy])
theorem ints_repL (ns : List Int) : RepL C F (ns.map V.int) (ns.map D.int) := by
  induction ns with
  | nil => exact .nil
  | cons i r ih => exact .cons (.int i) ih
theorem rows_k {k : V → List Int} (sF : Sub F H) (hk : ∀ ns t, SqT C.K H t (ns.map V.int) → k (.ref t) = ns) : ∀ {ds : List D} {rs : List (List Int)} {vs : List V}, rowsD ds = some rs → RepL C F vs ds → vs.map k = rs ∧ ∀ v ∈ vs, k v ≠ [] ∧ ∃ t, v = .ref t ∧ SqT C.K F t ((k v).map V.int)
  | [], _, _, h, r => by cases h; cases r; exact ⟨rfl, fun v hv => by cases hv⟩
  | d :: ds, rs, _, h, r => by
    cases r with
    | @cons v _ vs _ h1 r =>
      cases d <;> simp only [rowsD] at h <;> try (cases h; done)
      rename_i es
      split at h
      · rename_i i is e1
        obtain ⟨rs', e2, e3⟩ := Option.map_eq_some_iff.mp h
        subst e3
        obtain ⟨f1, f2⟩ := rows_k sF hk e2 r
        cases h1 with
        | @tup t xs _ sq rl =>
          rw [intsD_rep e1 rl] at sq
          have e4 := hk _ _ (sF.sqT sq)
          refine ⟨by rw [List.map_cons, e4, f1], fun v hv => ?_⟩
          rcases List.mem_cons.mp hv with rfl | hv
          · rw [e4]; exact ⟨List.cons_ne_nil _ _, t, rfl, sq⟩
          · exact f2 v hv
      · cases h
theorem rep_k {k : V → List Int} : ∀ {ys : List V}, (∀ v ∈ ys, ∃ t, v = .ref t ∧ SqT C.K F t ((k v).map V.int)) → RepL C F ys ((ys.map k).map fun r => .tup (r.map .int))
  | [], _ => .nil
  | y :: ys, h => by
    obtain ⟨t, e, sq⟩ := h y List.mem_cons_self
    refine .cons ?_ (rep_k fun v hv => h v (List.mem_cons_of_mem _ hv))
    have := Rep.tup sq (ints_repL (C := C) (F := F) (k y))
    rw [← e] at this
    exact this
theorem key_ex (K : PySem.W.Frag) (H : Hp) (inj : ∀ (t : Addr) (xs ys : List V), SqT K H t xs → SqT K H t ys → xs = ys) : ∃ k : V → List Int, ∀ ns t, SqT K H t (ns.map V.int) → k (.ref t) = ns := by
  classical
  refine ⟨fun v => if h : ∃ ns : List Int, ∃ t, v = .ref t ∧ SqT K H t (ns.map V.int) then h.choose else [], fun ns t sq => ?_⟩
  have h : ∃ ns : List Int, ∃ t', V.ref t = .ref t' ∧ SqT K H t' (ns.map V.int) := ⟨ns, t, rfl, sq⟩
  show (if h : ∃ ns : List Int, ∃ t', V.ref t = .ref t' ∧ SqT K H t' (ns.map V.int) then h.choose else []) = ns
  rw [dif_pos h]
  obtain ⟨t', e, sq'⟩ := h.choose_spec
  cases e
  have := inj t _ _ sq' sq
  exact (List.map_inj_right fun a b e => by cases e; rfl).mp this
def bltT : Blt → Option String
  | .tuple => some "tuple" | .list => some "list" | .int => some "int" | _ => none
def bltB : Blt → Option String
  | .len => some "len" | .all => some "all" | .any => some "any" | .max => some "max" | .min => some "min" | .abs => some "abs" | .sum => some "sum" | .divmod => some "divmod" | .maxl => some "max" | .minl => some "min" | .sorted => some "sorted" | _ => none
theorem call_lenD : CallR X (.builtin "len") (fun xs H Q => ∃ a kvs, xs = [V.ref a] ∧ Rd H a (.dK kvs) ∧ Q (.int ((kvs.length : Nat) : Int)) H) := by
  intro pins s σ H xs us Q I r h
  obtain ⟨a, kvs, rfl, hr, q⟩ := h
  obtain ⟨u, rfl, rx⟩ := vals1 r
  cases rx
  exact d_len I hr fun t s' I' => ⟨.int _, H, I', ⟨_, rfl⟩, q⟩
theorem RepK.length : ∀ {vs : List (Key × V)} {ds : List (Key × D)}, RepK C F vs ds → vs.length = ds.length
  | _, _, .nil => rfl
  | _, _, .cons _ r => by simp [RepK.length r]
theorem call_bltB (hK : X.K = C.K) (hc : X.calm = true) {b : Blt} {id : String} (hb : bltB b = some id) : CallR X (.builtin id) (rBlt C b) := by
  intro pins s σ H xs us Q I r h
  obtain ⟨F, ds, p, sF, hx, hp, q⟩ := h
  have hl := lim_eq
  unfold bltop at hp
  split at hp <;> simp only [bltB, Option.some.injEq, reduceCtorEq] at hb <;> try (cases hb)
  · cases hp; cases hx with | cons h1 hx => cases hx; obtain ⟨a, vs, rfl, h2, r1⟩ := h1.lst' sF; rw [← r1.length] at q; exact call_len_seq _ _ _ _ _ _ _ I r ⟨a, vs, rfl, .inl (SqL.of h2), q _ _ (.old (.int _))⟩
  · cases hp; cases hx with | cons h1 hx => cases hx; obtain ⟨a, vs, rfl, h2, r1⟩ := h1.sls sF; rw [← hK] at h2; rw [← r1.length] at q; exact call_len_seq _ _ _ _ _ _ _ I r ⟨a, vs, rfl, .inl h2, q _ _ (.old (.int _))⟩
  · cases hp; cases hx with | cons h1 hx => cases hx; obtain ⟨a, vs, rfl, h2, r1⟩ := h1.tup sF; rw [← hK] at h2; rw [← r1.length] at q; exact call_len_seq _ _ _ _ _ _ _ I r ⟨a, vs, rfl, .inr h2, q _ _ (.old (.int _))⟩
  · cases hp; cases hx with | cons h1 hx => cases hx; obtain ⟨a, ks, rfl, h2, r1⟩ := h1.dct' sF; rw [← r1.length] at q; exact call_lenD _ _ _ _ _ _ _ I r ⟨a, ks, rfl, h2, q _ _ (.old (.int _))⟩
  · split at hp
    · cases hp; cases hx with | cons h1 hx => cases hx; cases h1.str; exact call_len_str _ _ _ _ _ _ _ I r ⟨_, rfl, by omega, q _ _ (.old (.int _))⟩
    · cases hp
  · obtain ⟨bs, e1, e2⟩ := Option.map_eq_some_iff.mp hp
    cases e2; cases hx with | cons h1 hx => cases hx; obtain ⟨a, vs, rfl, h2, r1⟩ := h1.lst' sF; rw [bools_rep e1 r1] at h2; exact cr_all hc _ _ _ _ _ _ _ I r ⟨a, bs, rfl, SqL.of h2, q _ _ (.old (.bl _))⟩
  · obtain ⟨bs, e1, e2⟩ := Option.map_eq_some_iff.mp hp
    cases e2; cases hx with | cons h1 hx => cases hx; obtain ⟨a, vs, rfl, h2, r1⟩ := h1.lst' sF; rw [bools_rep e1 r1] at h2; exact cr_any hc _ _ _ _ _ _ _ I r ⟨a, bs, rfl, SqL.of h2, q _ _ (.old (.bl _))⟩
  · cases hp; cases hx with | cons h1 hx => cases hx with | cons h2 hx => cases hx; cases h1.int; cases h2.int; exact call_max2 hc _ _ _ _ _ _ _ I r ⟨_, _, rfl, q _ _ (.old (.int _))⟩
  · cases hp; cases hx with | cons h1 hx => cases hx with | cons h2 hx => cases hx; cases h1.int; cases h2.int; exact call_min2 hc _ _ _ _ _ _ _ I r ⟨_, _, rfl, q _ _ (.old (.int _))⟩
  · cases hp; cases hx with | cons h1 hx => cases hx; cases h1.int; exact call_abs _ _ _ _ _ _ _ I r ⟨_, rfl, q _ _ (.old (.int _))⟩
  · obtain ⟨bs, e1, e2⟩ := Option.map_eq_some_iff.mp hp
    cases e2; cases hx with | cons h1 hx => cases hx; obtain ⟨a, vs, rfl, h2, r1⟩ := h1.lst' sF; rw [intsD_rep e1 r1] at h2; exact cr_sum hc _ _ _ _ _ _ _ I r ⟨a, bs, rfl, SqL.of h2, q _ _ (.old (.int _))⟩
  · split at hp
    · rename_i i r0 e1
      cases hp; cases hx with | cons h1 hx => cases hx; obtain ⟨a, vs, rfl, h2, r1⟩ := h1.lst' sF; rw [intsD_rep e1 r1] at h2; exact cr_max hc _ _ _ _ _ _ _ I r ⟨a, _, rfl, SqL.of h2, by simp, fun m hm hy => by
        obtain ⟨z1, z2⟩ := maxI_in r0 i
        have e : m = maxI i r0 := Int.le_antisymm (z2 m hm) (hy _ z1)
        rw [e]; exact q _ _ (.old (.int _))⟩
    · cases hp
  · split at hp
    · rename_i i r0 e1
      cases hp; cases hx with | cons h1 hx => cases hx; obtain ⟨a, vs, rfl, h2, r1⟩ := h1.lst' sF; rw [intsD_rep e1 r1] at h2; exact cr_min hc _ _ _ _ _ _ _ I r ⟨a, _, rfl, SqL.of h2, by simp, fun m hm hy => by
        obtain ⟨z1, z2⟩ := minI_in r0 i
        have e : m = minI i r0 := Int.le_antisymm (hy _ z1) (z2 m hm)
        rw [e]; exact q _ _ (.old (.int _))⟩
    · cases hp
  · split at hp
    · rename_i hz
      cases hp; cases hx with | cons h1 hx => cases hx with | cons h2 hx => cases hx; cases h1.int; cases h2.int; exact call_divmod _ _ _ _ _ _ _ I r ⟨_, _, rfl, hz, fun p hp => q _ _ (.tup hp (.cons (.int _) (.cons (.int _) .nil)))⟩
    · cases hp
  · cases hx with | cons h1 hx => cases hx; obtain ⟨a, vs, rfl, h2, r1⟩ := h1.lst' sF; split at hp
                                  · rename_i is e1
                                    cases hp
                                    rw [intsD_rep e1 r1] at h2
                                    refine cr_sortedI _ _ _ _ _ _ _ I r ⟨a, is, rfl, SqL.of h2, fun ns' p hp hs hn => ?_⟩
                                    have e : ns' = sortS (fun a b => decide (a < b)) is := sort_uniq _ (fun a b h => decide_eq_false (fun g => absurd (of_decide_eq_true h) (by omega))) (fun a b c h g => by
                                      have h : ¬ a < b := by simpa using h
                                      have g : ¬ b < c := by simpa using g
                                      exact decide_eq_false (by omega)) (fun a b h g => by
                                      have h : ¬ a < b := by simpa using h
                                      have g : ¬ b < a := by simpa using g
                                      omega) (hs.imp fun {a b} h => decide_eq_false (by omega)) hp
                                    rw [e]
                                    exact q _ _ (.lst hn (ints_repL _))
                                  · obtain ⟨rs, e2, e3⟩ := Option.map_eq_some_iff.mp hp
                                    cases e3
                                    obtain ⟨k, hk⟩ := key_ex X.K H fun t xs ys h g => I.tuple_inj h g
                                    rw [hK] at hk
                                    obtain ⟨f1, f2⟩ := rows_k sF hk e2 r1
                                    refine cr_sortedR _ _ _ _ _ _ _ I r ⟨a, vs, k, rfl, SqL.of h2, fun x m => ?_, fun ys p hs hp hn => ?_⟩
                                    · obtain ⟨g1, t, g2, g3⟩ := f2 x m
                                      exact ⟨g1, t, g2, by rw [hK]; exact sF.sqT g3⟩
                                    · have e : ys.map k = sortS lexL rs := by
                                        refine sort_uniq _ lexL_asym lexL_neg lexL_eq (List.pairwise_map.mpr hs) ?_
                                        rw [← f1]; exact hp.map k
                                      rw [← e] at q
                                      exact q _ _ (.lst hn (rep_k fun v hv => (f2 v (hp.mem_iff.mp hv)).2))
  · cases hp
theorem call_bltT (hK : X.K = C.K) (hc : X.calm = true) {b : Blt} {id : String} (hb : bltT b = some id) : CallR X (.type id) (rBlt C b) := by
  intro pins s σ H xs us Q I r h
  obtain ⟨F, ds, p, sF, hx, hp, q⟩ := h
  unfold bltop at hp
  split at hp <;> simp only [bltT, Option.some.injEq, reduceCtorEq] at hb <;> try (cases hb)
  · cases hp; cases hx with | cons h1 hx => cases hx; obtain ⟨a, vs, rfl, h2, r1⟩ := h1.lst' sF; exact call_tuple_of _ _ _ _ _ _ _ I r ⟨a, vs, rfl, .inl ⟨SqL.of h2, fun l hl => q _ _ (.tup hl r1)⟩⟩
  · cases hp; cases hx with | cons h1 hx => cases hx; cases h1 with | rep z => cases z with | tup h2 r1 => exact call_tuple_of _ _ _ _ _ _ _ I r ⟨_, _, rfl, .inr ⟨by rw [hK]; exact sF.sqT h2, q _ _ (.old (.tup h2 r1))⟩⟩
  · cases hp; cases hx with | cons h1 hx => cases hx; obtain ⟨a, vs, rfl, h2, r1⟩ := h1.lst' sF; exact call_list_of _ _ _ _ _ _ _ I r ⟨a, vs, rfl, .inl (SqL.of h2), fun l hl => q _ _ (.lst hl r1)⟩
  · cases hp; cases hx with | cons h1 hx => cases hx; obtain ⟨a, vs, rfl, h2, r1⟩ := h1.tup sF; rw [← hK] at h2; exact call_list_of _ _ _ _ _ _ _ I r ⟨a, vs, rfl, .inr h2, fun l hl => q _ _ (.lst hl r1)⟩
  · cases hp; cases hx with | cons h1 hx => cases hx; cases h1.int; exact call_int1 _ _ _ _ _ _ _ I r (.inl ⟨_, rfl, q _ _ (.old (.int _))⟩)
  · cases hp; cases hx with | cons h1 hx => cases hx; cases h1.bl; exact call_int1 _ _ _ _ _ _ _ I r (.inr ⟨_, rfl, q _ _ (.old (.int _))⟩)
  · cases hp

/-! ### isinstance -/
structure IsOk (C : Ct) : Prop where
  cl : ∀ c, C.cs c = true → SlX.SCls C.K (C.clA c) ∧ SlX.SIsi C.K (C.clA c)
  oo : ∀ c d, C.cs c = true → C.cs d = true → PySem.W.kitOne C.K (.ref (C.clA c)) (.ref (C.clA d)) = some (decide (c = d))
  ot : ∀ c, C.cs c = true → ∀ n ∈ ["int", "bool", "str", "tuple", "list", "dict"], PySem.W.kitOne C.K (.ref (C.clA c)) (.type n) = some false
  to : ∀ c, C.cs c = true → ∀ n ∈ ["NoneType", "bool", "int", "str", "list", "tuple", "dict"], PySem.W.kitOne C.K (.type n) (.ref (C.clA c)) = some false
def tyV (C : Ct) : Ty → V
  | .int => .ty "int" | .bool => .ty "bool" | .str => .ty "str" | .tuple => .ty "tuple" | .list => .ty "list" | .dict => .ty "dict" | .cls c => .ref (C.clA c)
def tyU (C : Ct) : Ty → Value
  | .int => .type "int" | .bool => .type "bool" | .str => .type "str" | .tuple => .type "tuple" | .list => .type "list" | .dict => .type "dict" | .cls c => .ref (C.clA c)
theorem tyV_rel (t : Ty) : RelV (tyV C t) (tyU C t) := by cases t <;> rfl
theorem tyV_cls (t : Ty) : ClsV (tyV C t) (tyU C t) := by cases t <;> constructor
/-- the name of a value's built-in type -/
def tyNm : D → Option String
  | .non => some "NoneType" | .bl _ => some "bool" | .int _ => some "int" | .str _ => some "str" | .tup _ => some "tuple" | .lst _ => some "list" | .dct _ => some "dict" | _ => none
theorem tyX_of {d : D} {n : String} (h : Insp C F H v d) (s : Sub F H) (e : tyNm d = some n) : TyX C.K H v (.type n) := by
  cases d <;> simp only [tyNm, Option.some.injEq, reduceCtorEq] at e <;> subst e
  · cases h.non; exact .base .non
  · cases h.bl; exact .base (.bl _)
  · cases h.int; exact .base (.int _)
  · cases h.str; exact .base (.str _)
  · obtain ⟨a, xs, rfl, h1, _⟩ := h.tup s
    rcases h1 with (h1 | ⟨o, h1⟩) | ⟨o, its, n, h1, h2, _⟩
    · exact .base (.tup h1)
    · exact .fTuple h1
    · exact .kTuple h1 h2
  · obtain ⟨a, xs, rfl, h1, _⟩ := h.lst' s
    exact .base (.lst h1)
  · obtain ⟨a, xs, rfl, h1, _⟩ := h.dct' s
    rcases h1 with h1 | ⟨o, h1⟩
    · exact .base (.dK h1)
    · exact .fDict h1
def rIsA (C : Ct) (t : Ty) : List V → Hp → VK → Prop := fun xs H Q => ∃ F x d b, xs = [x, tyV C t] ∧ Sub F H ∧ Insp C F H x d ∧ isiD t d = some b ∧ (∀ c, t = .cls c → C.cs c = true) ∧ Q (.bl b) H
theorem call_isA (hK : X.K = C.K) (ok : IsOk C) (t : Ty) : CallR X (.builtin "isinstance") (rIsA C t) := by
  intro pins s σ H xs us Q I r h
  obtain ⟨F, x, d, b, rfl, sF, hx, hb, hc, q⟩ := h
  cases e : tyNm d with
  | some n =>
    have ty := tyX_of hx sF e
    rw [← hK] at ty
    refine call_isi _ _ _ _ _ _ _ I r ⟨x, tyV C t, .type n, tyU C t, b, rfl, tyV_cls t, ty, ?_, q⟩
    cases t with
    | cls c =>
      have z := ok.to c (hc c rfl) n (by cases d <;> simp only [tyNm, Option.some.injEq, reduceCtorEq] at e <;> subst e <;> simp)
      rw [hK]
      refine z.trans ?_
      cases d <;> simp only [tyNm, Option.some.injEq, reduceCtorEq] at e <;> exact hb
    | _ =>
      cases d <;> simp only [tyNm, Option.some.injEq, reduceCtorEq] at e <;> subst e <;> simp only [isiD] at hb <;> cases hb <;> exact kit_ty (by decide +kernel)
  | none =>
    cases d <;> simp only [tyNm, Option.some.injEq, reduceCtorEq] at e
    · rename_i c fs
      obtain ⟨a, dx, vs, rfl, kc, hs, _⟩ := hx.obj' sF
      obtain ⟨h1, h2⟩ := ok.cl c kc
      refine SlX.call_isiSl (tyU C t) _ _ _ _ _ _ _ I r ⟨a, C.clA c, dx, vs, tyV C t, b, rfl, tyV_rel t, fun w' z => (tyV_cls t).eq z, hs, by rw [hK]; exact h1, by rw [hK]; exact h2, ?_, q⟩
      rw [hK]
      cases t with
      | cls c' =>
        simp only [isiD] at hb
        cases hb
        refine (ok.oo c c' kc (hc c' rfl)).trans ?_
        congr 1
        exact decide_eq_decide.mpr ⟨Eq.symm, Eq.symm⟩
      | _ => simp only [isiD] at hb; cases hb; exact ok.ot c kc _ (by simp)
    all_goals (cases t <;> simp only [isiD] at hb <;> cases hb)
end
end RT

set_option Elab.async false
set_option linter.all false
set_option maxRecDepth 100000
/-! CoreF: readings by the evaluator; the expressions without calls. -/
namespace RT
open PySem PySem.Spec PyProof.Rows L2

/-- an exception of the class c that keeps d -/
def ExR (C : Ct) (F H : Hp) (c : Nat) (d : D) (cls : Value) (x : Option Addr) : Prop :=
  cls = .ref (C.clA c) ∧ (match C.exN c with
    | none => x = none
    | some f => ∃ dx v, x = some dx ∧ H dx = some (.xd [(f, v)]) ∧ Rep C F v d)
abbrev VR (α β : Type) := Hp → Rv → L2.St → Hp → Hp → Nv → β → α → Prop
/-- what is behind a piece of evaluation -/
def After (C : Ct) (W : WX) (G : Hp) (Rs : Rv) (σ : L2.St) (F : Hp) {α β : Type} (vr : VR α β) (Q : β → Hp → Prop) : R α → Prop
  | .ok a e => ∀ v F' H', Sub F F' → Rel C G Rs F' H' σ e → vr G Rs σ F' H' e v a → Q v H'
  | .exc c d e => ∀ F' H' cls x, Sub F F' → Rel C G Rs F' H' σ e → ExR C F' H' c d cls x → W cls x σ H'
  | .bad => False
def tG (C : Ct) (W : WX) {α β : Type} (vr : VR α β) (m : Nv → R α) : L2.St → Hp → (β → Hp → Prop) → Prop := fun σ H Q =>
  ∃ G Rs F e, Rel C G Rs F H σ e ∧ After C W G Rs σ F vr Q (m e)
def vV (C : Ct) : VR VL V := fun G Rs σ F H e v vl => VRep C G Rs F H σ e v vl
def vEq {α : Type} : VR α α := fun _ _ _ _ _ _ a b => a = b
/-- settled values -/
inductive SVL (C : Ct) (F : Hp) (σ : L2.St) : List V → List VL → Prop
  | nil : SVL C F σ [] []
  | fz {v : V} {d : D} {vs : List V} {ls : List VL} : Rep C F v d → SVL C F σ vs ls → SVL C F σ (v :: vs) (.fz d :: ls)
  | pk {v : V} {i : Nat} {vs : List V} {ls : List VL} : σ[i]? = some (some v) → SVL C F σ vs ls → SVL C F σ (v :: vs) (.pk i :: ls)
def vL (C : Ct) : VR (List VL) (List V) := fun _ _ σ F _ _ vs ls => SVL C F σ vs ls
section
variable {C : Ct} {W : WX} {G : Hp} {Rs : Rv} {F F1 H : Hp} {σ : L2.St} {α β γ δ : Type} {vr : VR α β} {vr1 : VR γ δ} {Q : β → Hp → Prop} {Q1 : δ → Hp → Prop}
theorem After.mono {r : R α} (s : Sub F F1) (h : After C W G Rs σ F vr Q r) : After C W G Rs σ F1 vr Q r := by
  cases r with
  | ok a e => exact fun v F' H' s' => h v F' H' (s.trans s')
  | exc c d e => exact fun F' H' cls x s' => h F' H' cls x (s.trans s')
  | bad => exact h
theorem After.bnd {r : R γ} {f : γ → Nv → R α} (h : After C W G Rs σ F vr Q (r.bind f))
    (k : ∀ a e1 v F1 H1, r = .ok a e1 → Sub F F1 → Rel C G Rs F1 H1 σ e1 → vr1 G Rs σ F1 H1 e1 v a → After C W G Rs σ F1 vr Q (f a e1) → Q1 v H1) : After C W G Rs σ F vr1 Q1 r := by
  cases r with
  | ok a e => exact fun v F' H' s r1 hv => k a e v F' H' rfl s r1 hv (After.mono s h)
  | exc c d e => exact h
  | bad => exact h
theorem SVL.up (s : Sub F F1) : ∀ {vs : List V} {ls : List VL}, SVL C F σ vs ls → SVL C F1 σ vs ls
  | _, _, .nil => .nil
  | _, _, .fz h r => .fz (h.up s) (SVL.up s r)
  | _, _, .pk h r => .pk h (SVL.up s r)
theorem SVL.length : ∀ {vs : List V} {ls : List VL}, SVL C F σ vs ls → vs.length = ls.length
  | _, _, .nil => rfl
  | _, _, .fz _ r => by simp [SVL.length r]
  | _, _, .pk _ r => by simp [SVL.length r]
theorem SVL.cons_set {e : Nv} {v : V} {vl : VL} {vs : List V} {ls : List VL} (h : VRep C G Rs F H σ e v vl.set) (r : SVL C F σ vs ls) : SVL C F σ (v :: vs) (vl.set :: ls) := by
  cases vl with
  | fz d => exact .fz h r
  | fr d => exact .fz h r
  | pk i => exact .pk h r
theorem SVL.fzs {vs : List V} {ds : List D} (r : RepL C F vs ds) {ws : List V} {ls : List VL} (q : SVL C F σ ws ls) : SVL C F σ (vs ++ ws) (ds.map VL.fz ++ ls) := by
  induction ds generalizing vs with
  | nil => cases r; exact q
  | cons d ds ih =>
    cases r with
    | cons h r => exact .fz h (ih r)
theorem SVL.frozen : ∀ {ls : List VL} {vs : List V} {e e' : Nv} {ds : List D} {F : Hp}, Rel C G Rs F H σ e → SVL C F σ vs ls → fzL e ls = some (ds, e') → ∃ F', Sub F F' ∧ Rel C G Rs F' H σ e' ∧ RepL C F' vs ds
  | [], _, e, e', ds, F, r, h, z => by
    cases h; cases z
    exact ⟨F, Sub.refl, r, .nil⟩
  | l :: ls, vs, e, e', ds, F, r, h, z => by
    simp only [fzL] at z
    split at z
    · rename_i d e1 z1
      split at z
      · rename_i ds' e2 z2
        cases z
        have key : ∃ v vs', vs = v :: vs' ∧ VRep C G Rs F H σ e v l ∧ SVL C F σ vs' ls := by
          cases h with
          | fz h q => exact ⟨_, _, rfl, h, q⟩
          | pk h q => exact ⟨_, _, rfl, h, q⟩
        obtain ⟨v, vs', rfl, hv, q⟩ := key
        obtain ⟨F1, s1, r1, h1⟩ := hv.frozen r z1
        obtain ⟨F2, s2, r2, h2⟩ := SVL.frozen r1 (q.up s1) z2
        exact ⟨F2, s1.trans s2, r2, .cons (h1.up s2) h2⟩
      · cases z
    · cases z
theorem SVL.insp (r : Rel C G Rs F H σ e) : ∀ {ls : List VL} {vs : List V} {ds : List D}, SVL C F σ vs ls → ls.mapM (lkv e) = some ds → InspL C F H vs ds
  | [], _, ds, h, z => by
    cases h
    simp at z
    subst z
    exact .nil
  | l :: ls, vs, ds, h, z => by
    rw [List.mapM_cons] at z
    obtain ⟨d, z1, z⟩ := Option.bind_eq_some_iff.mp z
    obtain ⟨ds', z2, z⟩ := Option.bind_eq_some_iff.mp z
    cases z
    cases h with
    | fz h q => exact .cons (r.look (vl := .fz _) h z1) (SVL.insp r q z2)
    | pk h q => exact .cons (r.look (vl := .pk _) h z1) (SVL.insp r q z2)
end

/-! ### rules -/
theorem starEach_ns {e : Expr} {es : List Expr} {env : Env} (h : notStar e = true) : starEach (e :: es) env = (false, eval e env) :: starEach es env := by
  cases e <;> first | rfl | cases h
theorem backTo_ns {env : Env} {pos : Pos} : ∀ {es : List Expr}, es.all notStar = true → (backTo pos (starEach es env)).any (·.1) = false
  | [], _ => rfl
  | e :: es, h => by
    rw [List.all_cons, Bool.and_eq_true] at h
    have ih := backTo_ns (env := env) (pos := pos) h.2
    rw [starEach_ns h.1]
    unfold backTo at ih ⊢
    simp only [List.map_cons, List.any_cons, Bool.false_or]
    exact ih
structure XOk (C : Ct) (W : WX) (X : Cx) : Prop where
  k : X.K = C.K
  calm : X.calm = true
  tk : Takes X W
  nd : X.N.Nodup
  u : X.A.units + 70 < cLine
  is : IsOk C
section
variable {C : Ct} {W : WX} {X : Cx} {a b c : Expr} {pos : Pos}
theorem PE_imp {e : Expr} {t t' : TE} (h : PE X e t) (k : ∀ σ H Q, t' σ H Q → t σ H Q) : PE X e t' := ⟨fun pins s σ H Q I q => h.run pins s σ H Q I (k σ H Q q)⟩
theorem PT_imp {e : Expr} {t t' : TT} (h : PT X e t) (k : ∀ σ H Q, t' σ H Q → t σ H Q) : PT X e t' := ⟨fun pins s σ H Q I q => h.run pins s σ H Q I (k σ H Q q)⟩
theorem PW_imp {e : Expr} {t t' : TT} (h : PW X e t) (k : ∀ σ H Q, t' σ H Q → t σ H Q) : PW X e t' := ⟨fun wh pins s σ H Q I q => h.run wh pins s σ H Q I (k σ H Q q)⟩
theorem PA_imp {es : List Expr} {t t' : TA} (h : PA X es t) (k : ∀ σ H Q, t' σ H Q → t σ H Q) : PA X es t' := ⟨fun pos pins s σ H Q I q => h.run pos pins s σ H Q I (k σ H Q q)⟩
theorem PO_imp {e : Option Expr} {t t' : TO} (h : PO X e t) (k : ∀ σ H Q, t' σ H Q → t σ H Q) : PO X e t' := ⟨fun pins s σ H Q I q => h.run pins s σ H Q I (k σ H Q q)⟩
/-- an expression's reading by the evaluator -/
abbrev tE (C : Ct) (W : WX) (m : Nv → R VL) : TE := tG C W (vV C) m
abbrev tL (C : Ct) (W : WX) (m : Nv → R (List VL)) : TA := tG C W (vL C) m
/-- a test's -/
def tst (m : Nv → R VL) (e : Nv) : R Bool := (m e).bind fun v e1 => match boolV e1 v with
  | some b => .ok b e1
  | none => .bad
abbrev tB (C : Ct) (W : WX) (m : Nv → R VL) : TT := tG C W vEq (tst m)

theorem e_const {m : Nv → R VL} {e : Expr} {v : V} {d : D} (hm : ∀ n, m n = .ok (.fz d) n) (hr : ∀ F, Rep C F v d) (h : PE X e (tC v)) : PE X e (tE C W m) :=
  PE_imp h fun σ H Q ⟨G, Rs, F, n, r, q⟩ => by
    rw [hm n] at q
    exact q v F H Sub.refl r (hr F)
theorem e_var {i : Nat} {m : Nv → R VL} {e : Expr} (hm : ∀ n, m n = (match n[i]? with
    | some (some (.sh, d)) => .ok (.fz d) n
    | some (some (_, _)) => .ok (.pk i) n
    | _ => .bad)) (h : PE X e (tVar i)) : PE X e (tE C W m) :=
  PE_imp h fun σ H Q ⟨G, Rs, F, n, r, q⟩ => by
    rw [hm n] at q
    split at q
    · rename_i d h1
      obtain ⟨v, h2, h3⟩ := r.sh i d h1
      exact ⟨v, h2, q v F H Sub.refl r h3⟩
    · rename_i fl d hf h1
      obtain ⟨p, h2, _⟩ := r.ow i fl d h1 (fun z => hf z)
      exact ⟨_, h2, q _ F H Sub.refl r h2⟩
    · exact q.elim
theorem a_nil : PA X [] (tL C W (fun n => .ok [] n)) :=
  PA_imp pa_nil fun σ H Q ⟨G, Rs, F, n, r, q⟩ => q [] F H Sub.refl r .nil
theorem a_cons {ma : Nv → R VL} {mr : Nv → R (List VL)} {es : List Expr} (hn : notStar a = true) (ha : PE X a (tE C W ma)) (hr : PA X es (tL C W mr)) :
    PA X (a :: es) (tL C W fun n => (ma n).bind fun v e1 => (mr e1).bind fun vs e2 => .ok (v.set :: vs) e2) :=
  PA_imp (pa_cons ha hr (starEach_ns hn)) fun σ H Q ⟨G, Rs, F, n, r, q⟩ => ⟨G, Rs, F, n, r, q.bnd fun v e1 x F1 H1 _ s1 r1 h1 q1 => by
    obtain ⟨F2, s2, r2, h2⟩ := VRep.settle r1 h1
    refine ⟨G, Rs, F2, e1, r2, (After.mono s2 q1).bnd fun vs e2 xs F3 H3 _ s3 r3 h3 q2 => ?_⟩
    refine q2 (x :: xs) F3 H3 Sub.refl r3 ?_
    cases v with
    | fz d => exact .fz (Rep.up (show Rep C F2 x d from h2) s3) h3
    | fr d => exact .fz (Rep.up (show Rep C F2 x d from h2) s3) h3
    | pk i => exact .pk h2 h3⟩
theorem a_star {ma : Nv → R VL} {mr : Nv → R (List VL)} {es : List Expr} {p : Pos} (hK : X.K = C.K) (ha : PE X a (tE C W ma)) (hr : PA X es (tL C W mr)) :
    PA X (.Starred a p :: es) (tL C W fun n => (ma n).bind fun v e1 => (match (lkv e1 v).bind seqD with
      | some xs => (mr e1).bind fun vs e2 => .ok (xs.map VL.fz ++ vs) e2
      | none => .bad)) :=
  PA_imp (StX.pa_star ha hr rfl) fun σ H Q ⟨G, Rs, F, n, r, q⟩ => ⟨G, Rs, F, n, r, q.bnd fun v e1 x F1 H1 _ s1 r1 h1 q1 => by
    split at q1
    · rename_i xs hx
      obtain ⟨d, l1, l2⟩ := Option.bind_eq_some_iff.mp hx
      obtain ⟨p', vs', e', hq, hv⟩ := (r1.look h1 l1).seq r1.fh l2
      refine ⟨p', vs', e', ?_, G, Rs, F1, e1, r1, q1.bnd fun vs e2 ys F3 H3 _ s3 r3 h3 q2 => ?_⟩
      · rw [hK]
        rcases hq with hq | hq
        · exact .inr hq
        · exact .inl hq
      · exact q2 _ F3 H3 Sub.refl r3 (SVL.fzs (hv.up s3) h3)
    · exact q1.elim⟩
/-- what a new value does to what is behind -/
theorem new_after {G : Hp} {Rs : Rv} {σ : L2.St} {F H H' : Hp} {e : Nv} {Q : VK} {p : Bool × D} {v : V} (r : Rel C G Rs F H σ e) (q : After C W G Rs σ F (vV C) Q (.ok (rof p) e)) (n : NewV C F H v p H') : Q v H' := by
  obtain ⟨F', s, r', h'⟩ := n.ok r
  exact q v F' H' s r' h'
theorem e_tup {ma : Nv → R (List VL)} {es : List Expr} {k : Nat} (ha : PA X es (tL C W ma)) : PE X (.Tuple es k pos) (tE C W fun n => (ma n).bind fun vs e1 => (match fzL e1 vs with
    | some (ds, e2) => if ds.length ≤ lim then .ok (.fz (.tup ds)) e2 else .bad
    | none => .bad)) :=
  PE_imp (pe_tup ha) fun σ H Q ⟨G, Rs, F, n, r, q⟩ => ⟨G, Rs, F, n, r, q.bnd fun vs e1 xs F1 H1 _ s1 r1 h1 q1 => by
    split at q1
    · rename_i ds e2 z
      obtain ⟨F2, s2, r2, h2⟩ := h1.frozen r1 z
      split at q1
      · rename_i hz
        refine ⟨by rw [h2.length, ← lim_eq]; exact hz, fun p hp => new_after (p := (false, .tup ds)) r2 (After.mono s2 q1) (.tup hp h2)⟩
      · exact q1.elim
    · exact q1.elim⟩
theorem e_lst {ma : Nv → R (List VL)} {es : List Expr} (ha : PA X es (tL C W ma)) : PE X (.List es pos) (tE C W fun n => (ma n).bind fun vs e1 => (match fzL e1 vs with
    | some (ds, e2) => if ds.length ≤ lim then .ok (.fr (.lst ds)) e2 else .bad
    | none => .bad)) :=
  PE_imp (pe_lst ha) fun σ H Q ⟨G, Rs, F, n, r, q⟩ => ⟨G, Rs, F, n, r, q.bnd fun vs e1 xs F1 H1 _ s1 r1 h1 q1 => by
    split at q1
    · rename_i ds e2 z
      obtain ⟨F2, s2, r2, h2⟩ := h1.frozen r1 z
      split at q1
      · rename_i hz
        refine ⟨by rw [h2.length, ← lim_eq]; exact hz, fun p hp => new_after (p := (true, .lst ds)) r2 (After.mono s2 q1) (.lst hp h2)⟩
      · exact q1.elim
    · exact q1.elim⟩
theorem e_dn : PE X (.Dict [] [] pos) (tE C W fun n => .ok (.fr (.dct [])) n) :=
  PE_imp pe_dnewK fun σ H Q ⟨G, Rs, F, n, r, q⟩ p hp => new_after (p := (true, .dct [])) r q (.dct hp .nil)
/-- two operands, then f -/
def two (ma mb : Nv → R VL) (f : D → D → Nv → R VL) (n : Nv) : R VL := (ma n).bind fun va e1 => (mb e1).bind fun vb e2 => (match lkv e2 va, lkv e2 vb with
  | some x, some y => f x y e2
  | _, _ => .bad)
theorem two_run {ma mb : Nv → R VL} {f : D → D → Nv → R VL} {r : R2} {σ : L2.St} {H : Hp} {Q : VK} (h : tE C W (two ma mb f) σ H Q)
    (k : ∀ G Rs F H x y dx dy e, Rel C G Rs F H σ e → Insp C F H x dx → Insp C F H y dy → After C W G Rs σ F (vV C) Q (f dx dy e) → r x y H Q) : tOp r (tE C W ma) (tE C W mb) σ H Q := by
  obtain ⟨G, Rs, F, n, rl, q⟩ := h
  refine ⟨G, Rs, F, n, rl, q.bnd fun va e1 x F1 H1 _ s1 r1 h1 q1 => ?_⟩
  obtain ⟨F2, s2, r2, h2⟩ := VRep.settle r1 h1
  refine ⟨G, Rs, F2, e1, r2, (After.mono s2 q1).bnd fun vb e2 y F3 H3 _ s3 r3 h3 q2 => ?_⟩
  split at q2
  · rename_i dx dy l1 l2
    have hx : VRep C G Rs F3 H3 σ e2 x va.set := by
      cases va with
      | fz d => exact Rep.up (show Rep C F2 x d from h2) s3
      | fr d => exact Rep.up (show Rep C F2 x d from h2) s3
      | pk i => exact h2
    have l1' : lkv e2 va.set = some dx := by cases va <;> exact l1
    exact k G Rs F3 H3 x y dx dy e2 r3 (r3.look hx l1') (r3.look h3 l2) q2
  · exact q2.elim
theorem e_bin {ma mb : Nv → R VL} (ok : XOk C W X) (op : Bop) (ha : PE X a (tE C W ma)) (hb : PE X b (tE C W mb)) :
    PE X (.BinOp a (opr op) b pos) (tE C W (two ma mb fun x y e => match binop op x y with
      | some p => .ok (rof p) e
      | none => .bad)) :=
  PE_imp (pe_op (op_bin ok.k op) ha hb) fun σ H Q h => two_run h fun G Rs F H x y dx dy e r hx hy q => by
    split at q
    · rename_i p hp
      exact ⟨F, dx, dy, p, r.fh, hx, hy, hp, fun v H' n => new_after r q n⟩
    · exact q.elim
theorem cmp_after {G : Hp} {Rs : Rv} {σ : L2.St} {F H : Hp} {e : Nv} {Q : VK} {b : Bool} (r : Rel C G Rs F H σ e) (q : After C W G Rs σ F (vV C) Q (.ok (.fz (.bl b)) e)) : Q (.bl b) H := q _ F H Sub.refl r (.bl b)
theorem e_cmp {ma mb : Nv → R VL} (ok : XOk C W X) (op : Cop) (hm : behindInMarks (cpr op) b = false) (ha : PE X a (tE C W ma)) (hb : PE X b (tE C W mb)) :
    PE X (.Compare a [cpr op] [b] pos) (tE C W (two ma mb fun x y e => match cmpop op x y with
      | some p => .ok (.fz (.bl p)) e
      | none => .bad)) :=
  PE_imp (pe_cmpR (op_cmp ok.k ok.u op) ha hb hm) fun σ H Q h => two_run h fun G Rs F H x y dx dy e r hx hy q => by
    split at q
    · rename_i p hp
      exact ⟨F, dx, dy, p, r.fh, hx, hy, hp, cmp_after r q⟩
    · exact q.elim
/-- a value's reading as a test's -/
theorem tst_run {m : Nv → R VL} {σ : L2.St} {H : Hp} {Q : Bool → Hp → Prop} (h : tB C W m σ H Q) : tE C W m σ H fun x H' => ∃ k, x = .bl k ∧ Q k H' := by
  obtain ⟨G, Rs, F, n, rl, q⟩ := h
  refine ⟨G, Rs, F, n, rl, q.bnd fun v e1 x F1 H1 _ s1 r1 h1 q1 => ?_⟩
  split at q1
  · rename_i b hb
    unfold boolV at hb
    split at hb
    · rename_i b' l1
      cases hb
      obtain rfl := (r1.look h1 l1).bl
      exact ⟨b, rfl, q1 b F1 H1 Sub.refl r1 rfl⟩
    · cases hb
  · exact q1.elim
theorem t_val {e : Expr} {m : Nv → R VL} (h : PE X e (tE C W m)) (he : ∀ whole, isTrue e X.env whole = (do let v ← whole; standAt e.pos; holding [v] (truthy v))) : PT X e (tB C W m) :=
  PT_imp (pt_val h he) fun σ H Q q => tst_run q
theorem t_cmp {ma mb : Nv → R VL} (ok : XOk C W X) (op : Cop) (hm : behindInMarks (cpr op) b = false) (ha : PE X a (tE C W ma)) (hb : PE X b (tE C W mb)) :
    PT X (.Compare a [cpr op] [b] pos) (tB C W (two ma mb fun x y e => match cmpop op x y with
      | some p => .ok (.fz (.bl p)) e
      | none => .bad)) :=
  PT_imp (pt_cmpR (op_cmp ok.k ok.u op) ha hb hm) fun σ H Q q => two_run (tst_run q) fun G Rs F H x y dx dy e r hx hy q => by
    split at q
    · rename_i p hp
      exact ⟨F, dx, dy, p, r.fh, hx, hy, hp, cmp_after r q⟩
    · exact q.elim
/-- the chain -/
def chain (o1 o2 : Cop) (ma mb mc : Nv → R VL) (e : Nv) : R VL := (ma e).bind fun va e1 => (mb e1).bind fun vb e2 => (match lkv e2 va, lkv e2 vb with
    | some x, some y => (match cmpop o1 x y with
      | some true => (mc e2).bind fun vc e3 => (match lkv e3 vb, lkv e3 vc with
        | some y, some z => (match cmpop o2 y z with
          | some q => .ok (.fz (.bl q)) e3
          | none => .bad)
        | _, _ => .bad)
      | some false => .ok (.fz (.bl false)) e2
      | none => .bad)
    | _, _ => .bad)
theorem VRep.keepS {G : Hp} {Rs : Rv} {σ : L2.St} {F F' H H' : Hp} {e e' : Nv} {v : V} {vl : VL} (h : VRep C G Rs F H σ e v vl.set) (s : Sub F F') : VRep C G Rs F' H' σ e' v vl.set := by
  cases vl with
  | fz d => exact Rep.up (show Rep C F v d from h) s
  | fr d => exact Rep.up (show Rep C F v d from h) s
  | pk i => exact h
theorem lkv_set {e : Nv} {vl : VL} : lkv e vl.set = lkv e vl := by cases vl <;> rfl
theorem chain_run {ma mb mc : Nv → R VL} {o1 o2 : Cop} {σ : L2.St} {H : Hp} {Q : VK} (h : tE C W (chain o1 o2 ma mb mc) σ H Q) : tChain (rCmp C o1) (rCmp C o2) (tE C W ma) (tE C W mb) (tE C W mc) σ H Q := by
  obtain ⟨G, Rs, F, n, rl, q⟩ := h
  refine ⟨G, Rs, F, n, rl, q.bnd fun va e1 x F1 H1 _ s1 r1 h1 q1 => ?_⟩
  obtain ⟨F2, s2, r2, h2⟩ := VRep.settle r1 h1
  refine ⟨G, Rs, F2, e1, r2, (After.mono s2 q1).bnd fun vb e2 y F3 H3 _ s3 r3 h3 q2 => ?_⟩
  obtain ⟨F4, s4, r4, h4⟩ := VRep.settle r3 h3
  have q2 := After.mono s4 q2
  split at q2
  · rename_i dx dy l1 l2
    have hx : Insp C F4 H3 x dx := r4.look (h2.keepS (s3.trans s4)) (lkv_set.trans l1)
    have hy : Insp C F4 H3 y dy := r4.look h4 (lkv_set.trans l2)
    split at q2
    · rename_i hp
      refine ⟨F4, dx, dy, true, r4.fh, hx, hy, hp, true, rfl, ?_⟩
      rw [if_pos rfl]
      refine ⟨G, Rs, F4, e2, r4, q2.bnd fun vc e3 z F5 H5 _ s5 r5 h5 q3 => ?_⟩
      split at q3
      · rename_i dy' dz l3 l4
        split at q3
        · rename_i p hp2
          exact ⟨F5, dy', dz, p, r5.fh, r5.look (h4.keepS s5) (lkv_set.trans l3), r5.look h5 l4, hp2, cmp_after r5 q3⟩
        · exact q3.elim
      · exact q3.elim
    · rename_i hp
      refine ⟨F4, dx, dy, false, r4.fh, hx, hy, hp, false, rfl, ?_⟩
      rw [if_neg Bool.false_ne_true]
      exact cmp_after r4 q2
    · exact q2.elim
  · exact q2.elim
theorem marks_of {o1 o2 : Cop} (h : behindInMarks (cpr o2) c = false) : lastMarks [cpr o1, cpr o2] [b, c] = false := h
theorem e_chn {ma mb mc : Nv → R VL} (ok : XOk C W X) (o1 o2 : Cop) (hm : behindInMarks (cpr o2) c = false) (ha : PE X a (tE C W ma)) (hb : PE X b (tE C W mb)) (hc : PE X c (tE C W mc)) :
    PE X (.Compare a [cpr o1, cpr o2] [b, c] pos) (tE C W (chain o1 o2 ma mb mc)) :=
  PE_imp (pe_chain (op_cmp ok.k ok.u o1) (op_cmp ok.k ok.u o2) ha hb hc (marks_of hm)) fun σ H Q h => chain_run h
theorem t_chn {ma mb mc : Nv → R VL} (ok : XOk C W X) (o1 o2 : Cop) (hm : behindInMarks (cpr o2) c = false) (ha : PE X a (tE C W ma)) (hb : PE X b (tE C W mb)) (hc : PE X c (tE C W mc)) :
    PT X (.Compare a [cpr o1, cpr o2] [b, c] pos) (tB C W (chain o1 o2 ma mb mc)) :=
  PT_imp (pt_chain (op_cmp ok.k ok.u o1) (op_cmp ok.k ok.u o2) ha hb hc (marks_of hm)) fun σ H Q h => chain_run (tst_run h)
end
end RT

set_option Elab.async false
set_option linter.all false
set_option maxRecDepth 100000
/-! CoreG: calls, and what is left of the expressions. -/
namespace RT
open PySem PySem.Spec PyProof.Rows L2

/-! ### promises -/
/-- what is handed in to be changed, and the cells that it has -/
inductive Hold (C : Ct) (F H : Hp) (p : Addr) : D → (Addr → Prop) → Prop
  | l {d : D} : ConL C F H p d → Hold C F H p d (fun b => b = p)
  | obj {dx : Addr} {vs : List (Option V)} {c : Nat} {fs : List (Option D)} : C.cs c = true → Ob H p (C.clA c) dx vs → dx ≠ p → F dx = none → RepO C F vs fs → Hold C F H p (.obj c fs) (fun b => b = p ∨ b = dx)
/-- behind a call -/
structure Kept (F H F' H' : Hp) (O : Addr → Prop) : Prop where
  ff : Sub F F'
  fh : Sub F' H'
  keep : ∀ b o, H b = some o → ¬ O b → H' b = some o
  free : ∀ b, H b ≠ none → F b = none → ¬ O b → F' b = none
def Gives (C : Ct) (H F' H' : Hp) (fr : Bool) (v : V) (r : D) : Prop :=
  if fr = true then ∃ q, v = .ref q ∧ F' q = none ∧ H q = none ∧ ConL C F' H' q r else Rep C F' v r
def Out (C : Ct) (F H : Hp) (O : Addr → Prop) (hp : Option Addr) (Q : VK) (E : XK) : CR → Prop
  | .ok fr r d => ∀ v F' H', Kept F H F' H' O → (∀ p, hp = some p → F' p = none ∧ Hold C F' H' p d O) → Gives C H F' H' fr v r → Q v H'
  | .exc c r _ => ∀ cls x F' H', Kept F H F' H' O → ExR C F' H' c r cls x → E cls x H'
  | .bad => False
def spF (C : Ct) (cb : Cal) (f : Nat) (io : Bool) (np : Nat) : Sp := fun vs H Q E => ∃ F, Sub F H ∧ vs.length = np ∧
  if io = true then ∃ p O d ds ws, vs = .ref p :: ws ∧ F p = none ∧ Hold C F H p d O ∧ RepL C F ws ds ∧ Out C F H O (some p) Q E (cb f (d :: ds))
  else ∃ ds, RepL C F vs ds ∧ Out C F H (fun _ => False) none Q E (cb f ds)

section
variable {C : Ct} {W : WX} {X : Cx} {G : Hp} {Rs : Rv} {F F' H H' : Hp} {σ : L2.St} {e : Nv} {v : V}
/-- behind a call that changes nothing -/
theorem Rel.after (r : Rel C G Rs F H σ e) (k : Kept F H F' H' (fun _ => False)) : Rel C G Rs F' H' σ e := by
  have s : Sub H H' := fun b o h => k.keep b o h (fun z => z)
  have r' := r.keep s
  refine ⟨r.len, k.fh, r'.gh, fun a h => ⟨k.free a (r.rs a h).2 (r.rs a h).1 (fun z => z), (r'.rs a h).2⟩, fun i d h => ?_, fun i fl d h hf => ?_, r.inj⟩
  · obtain ⟨u, h1, h2⟩ := r.sh i d h
    exact ⟨u, h1, h2.up k.ff⟩
  · obtain ⟨p, h1, h2, h3, h4, c⟩ := r.ow i fl d h hf
    have kk : ∀ {a : Addr}, H a ≠ none → H' a = H a := fun {a} h => by
      cases q : H a with
      | none => exact absurd q h
      | some o => exact s a o q
    refine ⟨p, h1, k.free p c.there h2 (fun z => z), h3, h4, ?_⟩
    cases c with
    | l c => exact .l ((c.at (kk c.there)).up k.ff)
    | obj z zk a b c d e f gg => exact .obj z zk (a.at (kk a.there.1) (kk a.there.2)) b (k.free _ a.there.2 c (fun z => z)) d e (f.up k.ff) gg
/-- behind a call that changes what slot i has -/
theorem Rel.afterIo {i : Nat} {fl : Fl} {d d' : D} {p : Addr} (r : Rel C G Rs F H σ e) (hi : e[i]? = some (some (fl, d))) (hf : fl ≠ Fl.sh) (hp : σ[i]? = some (some (V.ref p))) (hO : ConL C F H p d)
    (k : Kept F H F' H' (fun b => b = p)) (fp : F' p = none) (h' : ConL C F' H' p d') : Rel C G Rs F' H' σ (e.set i (some (fl, d'))) := by
  obtain ⟨hil, _⟩ := List.getElem?_eq_some_iff.mp hi
  obtain ⟨p', h1, f0, n0, g0, cc⟩ := r.ow i fl d hi hf
  rw [hp] at h1; cases h1
  have kk : ∀ {a : Addr}, H a ≠ none → a ≠ p → H' a = H a := fun {a} h n => by
    cases q : H a with
    | none => exact absurd q h
    | some o => exact k.keep a o q n
  refine ⟨by rw [List.length_set]; exact r.len, k.fh, fun a o h => k.keep a o (r.gh a o h) (fun z => by rw [z, g0] at h; cases h), fun a h => ⟨k.free a (r.rs a h).2 (r.rs a h).1 (by rintro rfl; exact n0 h), ?_⟩, fun j d0 h => ?_, fun j fj d0 h hfj => ?_, fun j k fi fj di dj q hjk h1 h2 h3 h4 => ?_⟩
  · rw [kk (r.rs a h).2 (by rintro rfl; exact n0 h)]
    exact (r.rs a h).2
  · by_cases q : i = j
    · subst q
      rw [List.getElem?_set_self hil] at h; cases h
      exact absurd rfl hf
    · rw [List.getElem?_set_ne q] at h
      obtain ⟨u, h1, h2⟩ := r.sh j d0 h
      exact ⟨u, h1, h2.up k.ff⟩
  · by_cases q : i = j
    · subst q
      rw [List.getElem?_set_self hil] at h; cases h
      exact ⟨p, hp, fp, n0, g0, .l h'⟩
    · rw [List.getElem?_set_ne q] at h
      obtain ⟨u, h1, h2, h3, h4, co⟩ := r.ow j fj d0 h hfj
      have nu : u ≠ p := by
        rintro rfl
        exact r.inj i j _ _ _ _ _ q hi (by assumption) h hfj hp h1
      refine ⟨u, h1, k.free u co.there h2 nu, h3, h4, ?_⟩
      cases co with
      | l co => exact .l ((co.at (kk co.there nu)).up k.ff)
      | obj z zk a b c d e f gg =>
        rename_i dx _ _ _
        have nd : dx ≠ p := by
          rintro rfl
          cases hO with
          | lst y _ => rcases a with ⟨_, _, x⟩ | ⟨_, x⟩ <;> (rw [x] at y; cases y)
          | dct y _ => rcases a with ⟨_, _, x⟩ | ⟨_, x⟩ <;> (rw [x] at y; cases y)
        exact .obj z zk (a.at (kk a.there.1 nu) (kk a.there.2 nd)) b (k.free _ a.there.2 c nd) d e (f.up k.ff) gg
  · have a : ∀ {j : Nat} {f0 : Fl} {d0 : D}, (e.set i (some (fl, d')))[j]? = some (some (f0, d0)) → ∃ d1, e[j]? = some (some (f0, d1)) := fun {j f0 d0} h => by
      by_cases q : i = j
      · subst q; rw [List.getElem?_set_self hil] at h; cases h; exact ⟨_, hi⟩
      · rw [List.getElem?_set_ne q] at h; exact ⟨_, h⟩
    obtain ⟨_, a1⟩ := a h1
    obtain ⟨_, a2⟩ := a h3
    exact r.inj j k fi fj _ _ q hjk a1 h2 a2 h4
theorem Hold.conL {p : Addr} {d : D} (h : Hold C F H p d (fun b => b = p)) : ConL C F H p d := by
  generalize hO : (fun b => b = p) = O at h
  cases h with
  | l h => exact h
  | @obj dx vs c fs a b c d e =>
    have z : (dx = p) = (dx = p ∨ dx = dx) := congrFun hO dx
    have y : dx = p := by rw [z]; exact .inr rfl
    exact absurd y c
/-- a call's value -/
theorem Gives.vrep {fr : Bool} {d : D} {e' : Nv} (r : Rel C G Rs F H σ e) (r' : Rel C G Rs F' H' σ e') (ho : ∀ (i : Nat) (fl : Fl) (d' : D), e'[i]? = some (some (fl, d')) → fl ≠ Fl.sh → ∃ d0, e[i]? = some (some (fl, d0))) (g : Gives C H F' H' fr v d) :
    VRep C G Rs F' H' σ e' v (rof (fr, d)) := by
  unfold Gives at g
  cases fr with
  | false => exact g
  | true =>
    rw [if_pos rfl] at g
    obtain ⟨q, rfl, f0, h0, c⟩ := g
    obtain ⟨_, n0, g0, no⟩ := r.fresh h0
    refine ⟨q, rfl, f0, n0, g0, c, fun i fl d' h hf z => ?_⟩
    obtain ⟨d0, h1⟩ := ho i fl d' h hf
    exact no i fl d0 h1 hf z
/-- how a def of the text is known to its callers -/
structure Call1 (C : Ct) (X : Cx) (cb : Cal) (n f : Nat) (x : Str) (io : Bool) (np : Nat) : Prop where
  mg : X.mg x = some (.ref (C.fnA f))
  kp : PySem.W.keepIn X.K (.ref (C.fnA f)) = true
  dbg : (x == ("__debug__" : Str)) = false
  ar : ∀ ds : List D, ds.length ≠ np → cb f ds = .bad
  ok : ∃ fd ps, FnOk X.prog X.w X.K X.mg X.base (L2.CX X.prog X.w) (2 * n) (C.fnA f) fd ps (spF C cb f io np) ∧ Binds X.K fd ps []
theorem exc_out {G : Hp} {Rs : Rv} {σ : L2.St} {F H : Hp} {e : Nv} {Q : VK} {c : Nat} {r : D} (q : After C W G Rs σ F (vV C) Q (.exc c r e)) :
    ∀ cls x F' H', Sub F F' → Rel C G Rs F' H' σ e → ExR C F' H' c r cls x → WE W σ cls x H' := fun cls x F' H' s r h => q F' H' cls x s r h
variable {a : Expr} {es : List Expr} {pos p0 : Pos}
/-- a call whose callee's outcome is known -/
theorem out_none {G : Hp} {Rs : Rv} {σ : L2.St} {F H : Hp} {e : Nv} {Q : VK} {cb : Cal} {n f : Nat} {x : Str} {np : Nat} {vs : List V} {ds : List D} (c1 : Call1 C X cb n f x false np) (r : Rel C G Rs F H σ e) (hv : RepL C F vs ds)
    (q : After C W G Rs σ F (vV C) Q (match cb f ds with
      | .ok fr r _ => .ok (rof (fr, r)) e
      | .exc c v _ => .exc c v e
      | .bad => .bad)) : spF C cb f false np vs H Q (WE W σ) := by
  have hl : vs.length = np := by
    rw [hv.length]
    by_cases z : ds.length = np
    · exact z
    · rw [c1.ar ds z] at q
      exact q.elim
  refine ⟨F, r.fh, hl, ?_⟩
  rw [if_neg Bool.false_ne_true]
  refine ⟨ds, hv, ?_⟩
  split at q <;> rename_i hcb <;> rw [hcb]
  · intro v F' H' k _ g
    have r' := r.after k
    exact q v F' H' k.ff r' (g.vrep r r' fun i fl d' h _ => ⟨d', h⟩)
  · intro cls x F' H' k h
    exact q F' H' cls x k.ff (r.after k) h
  · exact q
theorem e_call {cb : Cal} {n f : Nat} {x : Str} {np : Nat} {ma : Nv → R (List VL)} (ok : XOk C W X) (hr : Room (2 * n) X.A) (c1 : Call1 C X cb n f x false np) (hg : Gl X x) (hn : (a :: es).all notStar = true) (ha : PA X (a :: es) (tL C W ma)) :
    PE X (.Call (.Name x p0) (a :: es) [] pos) (tE C W fun n => (ma n).bind fun vs e1 => (match fzL e1 vs with
      | some (ds, e2) => (match cb f ds with
        | .ok fr r _ => .ok (rof (fr, r)) e2
        | .exc c v _ => .exc c v e2
        | .bad => .bad)
      | none => .bad)) := by
  obtain ⟨fd, ps, fok, hb⟩ := c1.ok
  rw [List.all_cons, Bool.and_eq_true] at hn
  refine PE_imp (pe_callS (E := WE W) fok hr hg c1.mg c1.kp hb (fun σ => passAt ok.tk σ) ha c1.dbg (starEach_ns hn.1) (backTo_ns hn.2)) fun σ H Q h => ?_
  obtain ⟨G, Rs, F, n, r, q⟩ := h
  refine ⟨G, Rs, F, n, r, q.bnd fun vs e1 xs F1 H1 _ s1 r1 h1 q1 => ?_⟩
  split at q1
  · rename_i ds e2 z
    obtain ⟨F2, s2, r2, h2⟩ := h1.frozen r1 z
    exact out_none c1 r2 h2 (After.mono s2 q1)
  · exact q1.elim
theorem e_callIo {cb : Cal} {n f i : Nat} {x y : Str} {py : Pos} {np : Nat} {ma : Nv → R (List VL)} (ok : XOk C W X) (hr : Room (2 * n) X.A) (c1 : Call1 C X cb n f x true np) (hg : Gl X x) (hv : PE X (.Name y py) (tVar i)) (hn : es.all notStar = true) (ha : PA X es (tL C W ma)) :
    PE X (.Call (.Name x p0) (.Name y py :: es) [] pos) (tE C W fun n => if (ownB n i).isSome then (ma n).bind fun vs e1 => (match fzL e1 vs with
      | some (ds, e2) => (match ownB e2 i with
        | some (fl, .lst xs) => (match cb f (.lst xs :: ds) with
          | .ok fr r d' => .ok (rof (fr, r)) (e2.set i (some (fl, d')))
          | _ => .bad)
        | _ => .bad)
      | none => .bad) else .bad) := by
  obtain ⟨fd, ps, fok, hb⟩ := c1.ok
  refine PE_imp (pe_callS (E := WE W) fok hr hg c1.mg c1.kp hb (fun σ => passAt ok.tk σ) (pa_cons hv ha (starEach_ns rfl)) c1.dbg (starEach_ns rfl) (backTo_ns hn)) fun σ H Q h => ?_
  obtain ⟨G, Rs, F, n, r, q⟩ := h
  dsimp only at q
  split at q
  case isFalse => exact q.elim
  rename_i hown
  obtain ⟨v0, hs⟩ : ∃ v, σ[i]? = some (some v) := by
    unfold ownB at hown
    split at hown
    · rename_i d hd
      obtain ⟨p, h1, _⟩ := r.ow i _ d hd (by decide)
      exact ⟨_, h1⟩
    · rename_i d hd
      obtain ⟨p, h1, _⟩ := r.ow i _ d hd (by decide)
      exact ⟨_, h1⟩
    · cases hown
  refine ⟨v0, hs, G, Rs, F, n, r, ?_⟩
  exact q.bnd fun vs e1 xs F1 H1 _ s1 r1 h1 q1 => by
    split at q1
    · rename_i ds e2 z
      obtain ⟨F2, s2, r2, h2⟩ := h1.frozen r1 z
      have q1 := After.mono s2 q1
      split at q1
      · rename_i fl xs' ho
        have key : e2[i]? = some (some (fl, .lst xs')) ∧ fl ≠ Fl.sh := by
          unfold ownB at ho
          split at ho
          · rename_i d hd; cases ho; exact ⟨hd, by decide⟩
          · rename_i d hd; cases ho; exact ⟨hd, by decide⟩
          · cases ho
        obtain ⟨k1, k2⟩ := key
        obtain ⟨p, h3, f0, n0, g0, c⟩ := r2.ow i fl _ k1 k2
        have cl : ConL C F2 H1 p (.lst xs') := by cases c with | l c => exact c
        rw [hs] at h3
        cases h3
        refine ⟨F2, r2.fh, ?_, ?_⟩
        · rw [List.length_cons, h2.length]
          by_cases z : (D.lst xs' :: ds).length = np
          · exact z
          · rw [c1.ar _ z] at q1
            exact q1.elim
        · rw [if_pos rfl]
          refine ⟨p, _, _, ds, xs, rfl, f0, .l cl, h2, ?_⟩
          split at q1
          · rename_i hcb
            rw [hcb]
            intro v F' H' k hh g
            obtain ⟨fp, hh⟩ := hh p rfl
            have hc := hh.conL
            have r' := r2.afterIo k1 k2 hs cl k fp hc
            refine q1 v F' H' k.ff r' (g.vrep r2 r' fun j fj d' h hf => ?_)
            obtain ⟨hil, _⟩ := List.getElem?_eq_some_iff.mp k1
            by_cases w : i = j
            · subst w; rw [List.getElem?_set_self hil] at h; cases h; exact ⟨_, k1⟩
            · rw [List.getElem?_set_ne w] at h; exact ⟨_, h⟩
          · exact q1.elim
      · exact q1.elim
    · exact q1.elim
/-- behind a call that is handed a new list -/
theorem Rel.afterFr {d : D} {p : Addr} (r : Rel C G Rs F H σ e) (n0 : ¬ Rs p) (g0 : G p = none) (no : ∀ (i : Nat) (fl : Fl) (d' : D), e[i]? = some (some (fl, d')) → fl ≠ Fl.sh → σ[i]? ≠ some (some (V.ref p))) (hO : ConL C F H p d)
    (k : Kept F H F' H' (fun b => b = p)) : Rel C G Rs F' H' σ e := by
  have kk : ∀ {a : Addr}, H a ≠ none → a ≠ p → H' a = H a := fun {a} h n => by
    cases q : H a with
    | none => exact absurd q h
    | some o => exact k.keep a o q n
  refine ⟨r.len, k.fh, fun a o h => k.keep a o (r.gh a o h) (fun z => by rw [z, g0] at h; cases h), fun a h => ⟨k.free a (r.rs a h).2 (r.rs a h).1 (by rintro rfl; exact n0 h), ?_⟩, fun j d0 h => ?_, fun j fj d0 h hfj => ?_, r.inj⟩
  · rw [kk (r.rs a h).2 (by rintro rfl; exact n0 h)]
    exact (r.rs a h).2
  · obtain ⟨u, h1, h2⟩ := r.sh j d0 h
    exact ⟨u, h1, h2.up k.ff⟩
  · obtain ⟨u, h1, h2, h3, h4, co⟩ := r.ow j fj d0 h hfj
    have nu : u ≠ p := by
      rintro rfl
      exact no j fj d0 h hfj h1
    refine ⟨u, h1, k.free u co.there h2 nu, h3, h4, ?_⟩
    cases co with
    | l co => exact .l ((co.at (kk co.there nu)).up k.ff)
    | obj z zk a b c d e f gg =>
      rename_i dx _ _ _
      have nd : dx ≠ p := by
        rintro rfl
        cases hO with
        | lst y _ => rcases a with ⟨_, _, x⟩ | ⟨_, x⟩ <;> (rw [x] at y; cases y)
        | dct y _ => rcases a with ⟨_, _, x⟩ | ⟨_, x⟩ <;> (rw [x] at y; cases y)
      exact .obj z zk (a.at (kk a.there.1 nu) (kk a.there.2 nd)) b (k.free _ a.there.2 c nd) d e (f.up k.ff) gg
theorem e_callF {cb : Cal} {n f : Nat} {x : Str} {np : Nat} {ma : Nv → R VL} (ok : XOk C W X) (hr : Room (2 * n) X.A) (c1 : Call1 C X cb n f x true np) (hg : Gl X x) (hn : notStar a = true) (ha : PE X a (tE C W ma)) :
    PE X (.Call (.Name x p0) [a] [] pos) (tE C W fun n => (ma n).bind fun v e1 => (match v with
      | .fr (.lst xs) => (match cb f [.lst xs] with
        | .ok fr r _ => .ok (rof (fr, r)) e1
        | _ => .bad)
      | _ => .bad)) := by
  obtain ⟨fd, ps, fok, hb⟩ := c1.ok
  refine PE_imp (pe_callS (E := WE W) fok hr hg c1.mg c1.kp hb (fun σ => passAt ok.tk σ) (pa_cons ha pa_nil (starEach_ns hn)) c1.dbg (starEach_ns hn) (backTo_ns rfl)) fun σ H Q h => ?_
  obtain ⟨G, Rs, F, n, r, q⟩ := h
  refine ⟨G, Rs, F, n, r, q.bnd fun vl e1 x1 F1 H1 _ s1 r1 h1 q1 => ?_⟩
  split at q1
  · rename_i xs _
    obtain ⟨p, rfl, f0, n0, g0, c, no⟩ := h1
    refine ⟨F1, r1.fh, ?_, ?_⟩
    · by_cases z : [D.lst xs].length = np
      · exact z
      · rw [c1.ar _ z] at q1
        exact q1.elim
    · rw [if_pos rfl]
      refine ⟨p, _, _, [], [], rfl, f0, .l c, .nil, ?_⟩
      split at q1
      · rename_i hcb
        rw [hcb]
        intro v F' H' k hh g
        have r' := r1.afterFr n0 g0 no c k
        exact q1 v F' H' k.ff r' (g.vrep r1 r' fun j fj d' h _ => ⟨d', h⟩)
      · exact q1.elim
  · exact q1.elim
end
end RT

set_option Elab.async false
set_option linter.all false
set_option maxRecDepth 100000
/-! CoreGl: a call to which one's own lists are lent. -/
namespace RT
open PySem PySem.Spec PyProof.Rows L2
section
variable {C : Ct} {W : WX} {X : Cx} {G : Hp} {Rs : Rv} {F F' H H' : Hp} {σ : L2.St} {e : Nv} {v : V}
/-- the lists lent to a call: all own ones but slot i's -/
def Lnt (e : Nv) (σ : L2.St) (i : Nat) (b : Addr) : Prop := ∃ j xs, j ≠ i ∧ e[j]? = some (some (Fl.ow, .lst xs)) ∧ σ[j]? = some (some (V.ref b))
noncomputable def lentF (F H : Hp) (Z : Addr → Prop) : Hp := fun b => open Classical in if Z b then H b else F b
noncomputable def lessF (F : Hp) (Z : Addr → Prop) : Hp := fun b => open Classical in if Z b then none else F b
theorem lentF_in {Z : Addr → Prop} {b : Addr} (h : Z b) : lentF F H Z b = H b := if_pos h
theorem lentF_out {Z : Addr → Prop} {b : Addr} (h : ¬ Z b) : lentF F H Z b = F b := if_neg h
theorem lessF_in {Z : Addr → Prop} {b : Addr} (h : Z b) : lessF F Z b = none := if_pos h
theorem lessF_out {Z : Addr → Prop} {b : Addr} (h : ¬ Z b) : lessF F Z b = F b := if_neg h
theorem lnt_at {i : Nat} {b : Addr} (r : Rel C G Rs F H σ e) (h : Lnt e σ i b) : F b = none ∧ ∃ ys xs, H b = some (.lst ys) ∧ RepL C F ys xs := by
  obtain ⟨j, xs, _, h1, h2⟩ := h
  obtain ⟨p, h3, f0, _, _, c⟩ := r.ow j _ _ h1 (by decide)
  rw [h2] at h3; cases h3
  cases c with
  | l c =>
    cases c with
    | lst a b => exact ⟨f0, _, _, a, b⟩
theorem lent_sub {i : Nat} (r : Rel C G Rs F H σ e) : Sub F (lentF F H (Lnt e σ i)) := fun b o h => by
  by_cases z : Lnt e σ i b
  · rw [(lnt_at r z).1] at h; cases h
  · rw [lentF_out z]; exact h
theorem lent_fh {i : Nat} (r : Rel C G Rs F H σ e) : Sub (lentF F H (Lnt e σ i)) H := fun b o h => by
  by_cases z : Lnt e σ i b
  · rw [lentF_in z] at h; exact h
  · rw [lentF_out z] at h; exact r.fh b o h
theorem lnV_rep {i : Nat} {vl : VL} {d : D} (r : Rel C G Rs F H σ e) (h : VRep C G Rs F H σ e v vl) (z : lnV e i vl = some d) : Rep C (lentF F H (Lnt e σ i)) v d := by
  cases vl with
  | fz d' => cases z; exact Rep.up h (lent_sub r)
  | fr d' => cases z
  | pk j =>
    have h : σ[j]? = some (some v) := h
    simp only [lnV] at z
    split at z
    · rename_i xs h1
      split at z
      · cases z
      · rename_i nj
        cases z
        obtain ⟨p, h3, f0, _, _, c⟩ := r.ow j _ _ h1 (by decide)
        rw [h] at h3; cases h3
        cases c with
        | l c =>
          cases c with
          | lst a b => exact .lst (by rw [lentF_in ⟨j, _, nj, h1, h⟩]; exact a) (b.up (lent_sub r))
    · rename_i d' h1
      cases z
      obtain ⟨u, h2, h3⟩ := r.sh j _ h1
      rw [h] at h2; cases h2
      exact h3.up (lent_sub r)
    · cases z
/-! what holds no list needs no list -/
mutual
theorem Rep.less {Z : Addr → Prop} (hz : ∀ b, Z b → ∃ ys, F b = some (.lst ys)) : ∀ (d : D) (v : V), flatD d = true → Rep C F v d → Rep C (lessF F Z) v d
  | .non, _, _, h => by cases h; exact .non
  | .bl _, _, _, h => by cases h; exact .bl _
  | .int _, _, _, h => by cases h; exact .int _
  | .str _, _, _, h => by cases h; exact .str _
  | .tup ds, _, g, h => by
    cases h with
    | @tup a xs _ h r =>
      have out : ∀ {o}, F a = some o → (∀ ys, o ≠ .lst ys) → lessF F Z a = some o := fun {o} h n => by
        by_cases z : Z a
        · obtain ⟨ys, hy⟩ := hz a z
          rw [h] at hy; cases hy
          exact absurd rfl (n ys)
        · rw [lessF_out z]; exact h
      refine .tup ?_ (RepL.less hz ds _ g r)
      rcases h with h | h
      · rcases h with h | ⟨o, h⟩
        · exact .inl (.inl (out h nofun))
        · exact .inl (.inr ⟨o, out h nofun⟩)
      · exact .inr h
  | .lst _, _, g, _ => by cases g
  | .dct _, _, g, _ => by cases g
  | .obj _ _, _, g, _ => by cases g
  | .fn _, _, g, _ => by cases g
  | .ty _, _, g, _ => by cases g
  | .clo _ _, _, g, _ => by cases g
  | .exv _ _, _, g, _ => by cases g
  | .sls _, _, g, _ => by cases g
theorem RepL.less {Z : Addr → Prop} (hz : ∀ b, Z b → ∃ ys, F b = some (.lst ys)) : ∀ (ds : List D) (vs : List V), flatL ds = true → RepL C F vs ds → RepL C (lessF F Z) vs ds
  | [], _, _, h => by cases h; exact .nil
  | d :: ds, _, g, h => by
    cases h with
    | cons h r =>
      obtain ⟨g1, g2⟩ := (Bool.and_eq_true _ _).mp g
      exact .cons (Rep.less hz d _ g1 h) (RepL.less hz ds _ g2 r)
end
theorem kept_less {i : Nat} {O : Addr → Prop} (r : Rel C G Rs F H σ e) (k : Kept (lentF F H (Lnt e σ i)) H F' H' O) : Kept F H (lessF F' (Lnt e σ i)) H' O := by
  refine ⟨fun b o h => ?_, fun b o h => ?_, k.keep, fun b h f n => ?_⟩
  · have z : ¬ Lnt e σ i b := fun z => by rw [(lnt_at r z).1] at h; cases h
    rw [lessF_out z]
    exact k.ff b o (by rw [lentF_out z]; exact h)
  · by_cases z : Lnt e σ i b
    · rw [lessF_in z] at h; cases h
    · rw [lessF_out z] at h; exact k.fh b o h
  · by_cases z : Lnt e σ i b
    · exact lessF_in z
    · rw [lessF_out z]
      exact k.free b h (by rw [lentF_out z]; exact f) n
theorem lnL_rep {i : Nat} (r : Rel C G Rs F H σ e) : ∀ {ls : List VL} {vs : List V} {ds : List D}, SVL C F σ vs ls → ls.mapM (lnV e i) = some ds → RepL C (lentF F H (Lnt e σ i)) vs ds
  | [], _, ds, h, z => by
    cases h
    simp at z
    subst z
    exact .nil
  | l :: ls, vs, ds, h, z => by
    rw [List.mapM_cons] at z
    obtain ⟨d, z1, z⟩ := Option.bind_eq_some_iff.mp z
    obtain ⟨ds', z2, z⟩ := Option.bind_eq_some_iff.mp z
    cases z
    cases h with
    | fz h q => exact .cons (lnV_rep r (vl := .fz _) h z1) (lnL_rep r q z2)
    | pk h q => exact .cons (lnV_rep r (vl := .pk _) h z1) (lnL_rep r q z2)
variable {a : Expr} {es : List Expr} {pos p0 : Pos}
theorem e_callL {cb : Cal} {n f i : Nat} {x y : Str} {py : Pos} {np : Nat} {ma : Nv → R (List VL)} (ok : XOk C W X) (hr : Room (2 * n) X.A) (c1 : Call1 C X cb n f x true np) (hg : Gl X x) (hv : PE X (.Name y py) (tVar i)) (hn : es.all notStar = true) (ha : PA X es (tL C W ma)) :
    PE X (.Call (.Name x p0) (.Name y py :: es) [] pos) (tE C W fun n => if (ownB n i).isSome then (ma n).bind fun vs e1 => (match vs.mapM (lnV e1 i) with
      | some ds => (match ownB e1 i with
        | some (fl, .lst xs) => (match cb f (.lst xs :: ds) with
          | .ok false r (.lst ys) => if (flatD r && flatL ys) = true then .ok (.fz r) (e1.set i (some (fl, .lst ys))) else .bad
          | _ => .bad)
        | _ => .bad)
      | none => .bad) else .bad) := by
  obtain ⟨fd, ps, fok, hb⟩ := c1.ok
  refine PE_imp (pe_callS (E := WE W) fok hr hg c1.mg c1.kp hb (fun σ => passAt ok.tk σ) (pa_cons hv ha (starEach_ns rfl)) c1.dbg (starEach_ns rfl) (backTo_ns hn)) fun σ H Q h => ?_
  obtain ⟨G, Rs, F, n, r, q⟩ := h
  dsimp only at q
  split at q
  case isFalse => exact q.elim
  rename_i hown
  obtain ⟨v0, hs⟩ : ∃ v, σ[i]? = some (some v) := by
    unfold ownB at hown
    split at hown
    · rename_i d hd
      obtain ⟨p, h1, _⟩ := r.ow i _ d hd (by decide)
      exact ⟨_, h1⟩
    · rename_i d hd
      obtain ⟨p, h1, _⟩ := r.ow i _ d hd (by decide)
      exact ⟨_, h1⟩
    · cases hown
  refine ⟨v0, hs, G, Rs, F, n, r, ?_⟩
  exact q.bnd fun vs e1 xs F1 H1 _ s1 r1 h1 q1 => by
    split at q1
    · rename_i ds z
      have h2 := lnL_rep (i := i) r1 h1 z
      split at q1
      · rename_i fl xs' ho
        have key : e1[i]? = some (some (fl, .lst xs')) ∧ fl ≠ Fl.sh := by
          unfold ownB at ho
          split at ho
          · rename_i d hd; cases ho; exact ⟨hd, by decide⟩
          · rename_i d hd; cases ho; exact ⟨hd, by decide⟩
          · cases ho
        obtain ⟨k1, k2⟩ := key
        obtain ⟨p, h3, f0, n0, g0, c⟩ := r1.ow i fl _ k1 k2
        have cl : ConL C F1 H1 p (.lst xs') := by cases c with | l c => exact c
        rw [hs] at h3
        cases h3
        have np' : ¬ Lnt e1 σ i p := by
          rintro ⟨j, ys, hj, a1, a2⟩
          exact r1.inj j i _ _ _ _ _ hj a1 (by decide) k1 k2 a2 hs
        refine ⟨lentF F1 H1 (Lnt e1 σ i), lent_fh r1, ?_, ?_⟩
        · rw [List.length_cons, h2.length]
          by_cases z : (D.lst xs' :: ds).length = np
          · exact z
          · rw [c1.ar _ z] at q1
            exact q1.elim
        · rw [if_pos rfl]
          refine ⟨p, _, _, ds, xs, rfl, by rw [lentF_out np']; exact f0, .l (cl.up (lent_sub r1)), h2, ?_⟩
          split at q1
          · rename_i rr ys hcb
            rw [hcb]
            split at q1
            · rename_i hfl
              obtain ⟨fl1, fl2⟩ := (Bool.and_eq_true _ _).mp hfl
              intro v F' H' k hh g
              obtain ⟨fp, hh⟩ := hh p rfl
              have hc := hh.conL
              have k' := kept_less r1 k
              have hz : ∀ b, Lnt e1 σ i b → ∃ ys, F' b = some (.lst ys) := fun b hb => by
                obtain ⟨_, ys, _, hy, _⟩ := lnt_at r1 hb
                exact ⟨ys, k.ff b _ (by rw [lentF_in hb]; exact hy)⟩
              have hc' : ConL C (lessF F' (Lnt e1 σ i)) H' p (.lst ys) := by
                cases hc with
                | lst a b => exact .lst a (RepL.less hz _ _ fl2 b)
              have r' := r1.afterIo k1 k2 hs cl k' (by rw [lessF_out np']; exact fp) hc'
              exact q1 v _ H' k'.ff r' (Rep.less hz _ _ fl1 g)
            · exact q1.elim
          · exact q1.elim
      · exact q1.elim
    · exact q1.elim
end
end RT

set_option Elab.async false
set_option linter.all false
set_option maxRecDepth 100000
/-! CoreH: the other expressions. -/
namespace RT
open PySem PySem.Spec PyProof.Rows L2

/-! ### t[::-1] of a tuple -/
section
variable {prog : Program} {w : World} {A : Around} {E : Value → Shared → Prop} {s : Shared}
theorem back_adjust (n : Nat) : Builtin.Slice.sliceAdjust none none (-1) (n : Int) = ((n : Int) - 1, -1) := by
  unfold Builtin.Slice.sliceAdjust
  simp
theorem back_places (n : Nat) : Builtin.Slice.slicePlaces ((n : Int) - 1) (-1) (-1) = n := by
  unfold Builtin.Slice.slicePlaces
  rw [if_neg (by decide)]
  by_cases h : (n : Int) - 1 > -1
  · rw [if_pos h]
    have e : ((n : Int) - 1 - -1 - 1) / (- -1) + 1 = (n : Int) := by
      rw [show (- -1 : Int) = 1 by decide, Int.ediv_one]
      omega
    rw [e, Int.toNat_natCast]
  · rw [if_neg h]
    omega
theorem sliceApplied_back {sl : Addr} {vl vu vs : Value} {n : Nat} {Q : Int × Int × Nat → Shared → Prop} (hs : s.heap.IsSliceOf sl vl vu vs) (pl : IsPart vl none) (pu : IsPart vu none) (ps : IsPart vs (some (-1)))
    (h : Q ((n : Int) - 1, -1, n) s) : wpAny (model prog w) A (Builtin.Slice.sliceApplied (.ref sl) (pure (n : Int))) Q E s := by
  obtain ⟨os, hos, hcs, hds⟩ := id hs
  unfold Builtin.Slice.sliceApplied Builtin.Slice.sliceFields
  refine wpAny_bind (wpAny_bind (wpAny_field hos hds (x := vl) rfl (wpAny_bind (wpAny_field hos hds (x := vu) rfl (wpAny_bind (wpAny_field hos hds (x := vs) rfl (wpAny_pure ?_)))))))
  refine wpAny_bind (HT.slicePart_ ps ?_)
  show wpAny _ _ (if ((-1 : Int) == 0) = true then _ else _) _ _ s
  rw [if_neg (by decide)]
  refine wpAny_bind (HT.slicePart_ pl (wpAny_bind (HT.slicePart_ pu (wpAny_bind (wpAny_pure ?_)))))
  show wpAny _ _ (match Builtin.Slice.sliceAdjust none none (-1) (n : Int) with | (lo, hi) => pure (lo, (-1 : Int), Builtin.Slice.slicePlaces lo hi (-1))) _ _ s
  rw [back_adjust]
  show wpAny _ _ (pure ((n : Int) - 1, (-1 : Int), Builtin.Slice.slicePlaces ((n : Int) - 1) (-1) (-1))) _ _ s
  rw [back_places]
  exact wpAny_pure h
theorem fm_congr {α β : Type} {f g : α → Option β} : ∀ {l : List α}, (∀ x ∈ l, f x = g x) → l.filterMap f = l.filterMap g
  | [], _ => rfl
  | x :: l, h => by
    rw [List.filterMap_cons, List.filterMap_cons, h x List.mem_cons_self, fm_congr fun y hy => h y (List.mem_cons_of_mem _ hy)]
theorem pick_back (xs : Array Value) : ((List.range xs.size).filterMap fun (k : Nat) => xs[(((xs.size : Int) - 1) + (k : Int) * (-1)).toNat]?).toArray = xs.toList.reverse.toArray := by
  have e : ((List.range xs.size).filterMap fun (k : Nat) => xs[(((xs.size : Int) - 1) + (k : Int) * (-1)).toNat]?) = ((List.range xs.size).map fun k => xs.size - 1 - k).filterMap (xs[·]?) := by
    rw [List.filterMap_map]
    apply fm_congr
    intro k hk
    have := List.mem_range.mp hk
    have z : (((xs.size : Int) - 1) + (k : Int) * (-1)).toNat = xs.size - 1 - k := by omega
    show xs[_]? = xs[_]?
    rw [z]
  rw [e, PySem.W.krv_range, List.filterMap_reverse, PySem.W.krv_all]
theorem getItem_tuple_back {t sl : Addr} {items : Array Value} {vl vu vs : Value} {Q : Value → Shared → Prop} (ht : IsTup s.heap t items) (hs : s.heap.IsSliceOf sl vl vu vs) (pl : IsPart vl none) (pu : IsPart vu none) (ps : IsPart vs (some (-1)))
    (h : Q (.ref s.heap.objs.size) { s with heap := s.heap.push { cls := .type "tuple", data := .seq items.toList.reverse.toArray } })
    (hsz : items.size ≤ sizeLine) : wpAny (model prog w) A (getItem (.ref t) (.ref sl)) Q E s := by
  have hz : sizeOk (.seq items.toList.reverse.toArray) := by
    show items.toList.reverse.toArray.size ≤ sizeLine
    rw [List.size_toArray, List.length_reverse, Array.length_toList]
    exact hsz
  obtain ⟨os, hos, hcs, hds⟩ := id hs
  have hTs : s.TypeIs (.ref sl) "slice" := ⟨os, hos, hcs⟩
  unfold getItem
  try with_reducible refine wpAny_holding ?_
  first | refine wpAny_bind (wpAny_pure ?_) | skip
  refine wpAny_bind (wpAny_sequenceKey ht.typeIs (by decide) ?_)
  refine wpAny_bind (wpAny_callSpecial?_slot (name := Str.ofString "__getitem__") ht.typeIs PyProof.Rows.slot_tuple_getitem
    (wpAny_call_entry PyProof.Rows.slot_tuple_getitem ht.typeIs entry_tuple_getitem ?_ (args_tuple_getitem _ _)))
  show wpAny _ _ (Builtin.Tuple.tupleItemsOf (.ref t) >>= _) _ _ s
  refine wpAny_bind (tupleItemsOf_ ht ?_)
  refine wpAny_bind (wpAny_typeOf hTs ?_)
  rw [if_pos (by decide)]
  refine wpAny_bind (sliceApplied_back hs pl pu ps ?_)
  have hno : ¬ ((((items.size : Int) - 1) == 0 && (-1 : Int) == 1 && items.size == items.size) = true) := by
    intro q
    rw [Bool.and_eq_true, Bool.and_eq_true] at q
    exact absurd q.1.2 (by decide)
  show wpAny _ _ (if ((((items.size : Int) - 1) == 0 && (-1 : Int) == 1 && items.size == items.size) = true) then _ else _) _ _ s
  rw [if_neg hno, pick_back]
  first
    | exact wpAny_bind (m := Builtin.Tuple.tupleExact _) (wpAny_newObj_type (wpAny_pure ⟨_, rfl, wpAny_pure h⟩) hz)
    | exact wpAny_bind (m := Builtin.Tuple.tupleExact _) (wpAny_newObj_type (wpAny_bind (wpAny_pure (wpAny_pure ⟨_, rfl, wpAny_pure h⟩))) hz)
    | exact wpAny_bind (wpAny_bind (m := Builtin.Tuple.tupleExact _) (wpAny_newObj_type (wpAny_pure (wpAny_pure ⟨_, rfl, wpAny_pure h⟩)) hz))
    | exact wpAny_bind (wpAny_bind (m := Builtin.Tuple.tupleExact _) (wpAny_newObj_type (wpAny_pure ⟨_, rfl, wpAny_pure h⟩) hz))
end
section
variable {C : Ct} {W : WX} {X : Cx} {a b c : Expr} {pos : Pos}
def tRevA (C : Ct) (te : TE) : TE := fun σ H Q => te σ H fun x H1 => ∃ F d p, Sub F H1 ∧ Insp C F H1 x d ∧ revop d = some p ∧ ∀ v H', NewV C F H1 v p H' → Q v H'
theorem pe_revA {e : Expr} {te : TE} {k : Nat} {p1 p2 p3 : Pos} (hK : X.K = C.K) (he : PE X e te) : PE X (.Subscript e (.Slice none none (some (.UnaryOp .USub (.Constant (.int 1) k p1) p2)) p3) pos) (tRevA C te) := by
  refine ⟨fun pins s σ H Q I h => ?_⟩
  refine Subscript_ (thn (he.run pins s σ H _ I h) fun v s1 ⟨x, H1, I1, r1, q1⟩ => ?_)
  obtain ⟨F, d, p, sF, hi, hp, q⟩ := q1
  have hst : PO X (some (.UnaryOp .USub (.Constant (.int 1) k p1) p2)) (tPart (tUn (rU fun i => .int (-i)) (tC (.int 1)))) := po_some (pe_un un_neg pe_int)
  refine wpAny_Slice (thn (po_none.run pins s1 σ H1 (fun o H2 => o = none ∧ H2 = H1) I1 ⟨rfl, rfl⟩) fun vl s2 ⟨l, H2, I2, pl, el, e2⟩ => ?_)
  subst el e2
  refine thn (po_none.run pins s2 σ H2 (fun o H3 => o = none ∧ H3 = H2) I2 ⟨rfl, rfl⟩) fun vu s3 ⟨u, H3, I3, pu, eu, e3⟩ => ?_
  subst eu e3
  refine thn (hst.run pins s3 σ H3 (fun o H4 => o = some (-1) ∧ H4 = H3) I3 ⟨1, rfl, -1, rfl, rfl, rfl⟩) fun vs s4 ⟨o, H4, I4, ps, eo, e4⟩ => ?_
  subst eo e4
  have I5 : Inv X pins σ H4 { s4 with heap := s4.heap.push { cls := .type "slice", data := .fields #[vl, vu, vs] } } := I4.kept (t' := s4.toks) fun b ob q => Heap.get?_push_of_some _ q
  cases d <;> simp only [revop, Option.some.injEq, reduceCtorEq] at hp <;> subst hp
  · rename_i ds
    obtain ⟨a, xs, rfl, hx, r⟩ := hi.tup sF
    cases r1
    rw [← hK] at hx
    obtain ⟨its, rv, ht, hz⟩ := I5.tuple hx
    have hlen := rv.length
    show wpAny (model X.prog X.w) X.A (subscriptTail e (.Slice none none (some (.UnaryOp .USub (.Constant (.int 1) k p1) p2)) p3) (.ref a) (.ref s4.heap.objs.size)) (EP X pins σ Q) X.xe { s4 with heap := s4.heap.push { cls := .type "slice", data := .fields #[vl, vu, vs] } }
    refine tail_any (ops := [.ref a, .ref s4.heap.objs.size]) ht.typeIs PySem.F.slot_tuple_getitem.lookup ?_ (by with_unfolding_all rfl)
    refine getItem_tuple_back ht (Heap.IsSliceOf.new _ vl vu vs) pl pu ps ?_ (by rw [List.size_toArray]; omega)
    refine ⟨.ref _, _, I5.laid (t' := s4.toks) (o := .tup xs.reverse) (fun b ob q => Heap.get?_push_of_some _ q) (Nat.le_refl _) ?_, rfl, q _ _ (.tup (I5.hok.fresh (Nat.le_refl _)) r.reverse)⟩
    exact ⟨by rw [List.length_reverse]; exact hz, _, rv.reverse, IsTup.new _ _⟩
  · rename_i ds
    obtain ⟨a, xs, rfl, hx, r⟩ := hi.lst' sF
    cases r1
    obtain ⟨its, rv, ht, hz⟩ := I5.list (SqL.of hx)
    have hlen := rv.length
    show wpAny (model X.prog X.w) X.A (subscriptTail e (.Slice none none (some (.UnaryOp .USub (.Constant (.int 1) k p1) p2)) p3) (.ref a) (.ref s4.heap.objs.size)) (EP X pins σ Q) X.xe { s4 with heap := s4.heap.push { cls := .type "slice", data := .fields #[vl, vu, vs] } }
    refine tail_any (ops := [.ref a, .ref s4.heap.objs.size]) ht.isList.typeIs (PySem.slot_list_getitem.lookup) ?_ (by with_unfolding_all rfl)
    refine wpAny_getItem_list_slice ht.isList (Heap.IsSliceOf.new _ vl vu vs) pl pu ps (by decide) ?_ (by rw [List.size_toArray]; omega)
    rw [PySem.W.krv_pick]
    refine ⟨.ref _, _, I5.laid (t' := s4.toks) (o := .lst xs.reverse) (fun b ob q => Heap.get?_push_of_some _ q) (Nat.le_refl _) ?_, rfl, q _ _ (.lst (I5.hok.fresh (Nat.le_refl _)) r.reverse)⟩
    exact ⟨by rw [List.length_reverse]; exact hz, _, 0, rv.reverse, Heap.get?_push_size _ rfl⟩
/-- one operand, then f -/
def one (ma : Nv → R VL) (f : D → Nv → R VL) (n : Nv) : R VL := (ma n).bind fun va e1 => (match lkv e1 va with
  | some x => f x e1
  | none => .bad)
theorem one_run {ma : Nv → R VL} {f : D → Nv → R VL} {r : V → Hp → VK → Prop} {σ : L2.St} {H : Hp} {Q : VK} (h : tE C W (one ma f) σ H Q)
    (k : ∀ G Rs F H x dx e, Rel C G Rs F H σ e → Insp C F H x dx → After C W G Rs σ F (vV C) Q (f dx e) → r x H Q) : tE C W ma σ H fun x H1 => r x H1 Q := by
  obtain ⟨G, Rs, F, n, rl, q⟩ := h
  refine ⟨G, Rs, F, n, rl, q.bnd fun va e1 x F1 H1 _ s1 r1 h1 q1 => ?_⟩
  split at q1
  · rename_i dx l1
    exact k G Rs F1 H1 x dx e1 r1 (r1.look h1 l1) q1
  · exact q1.elim
theorem e_rev {ma : Nv → R VL} {k : Nat} {p1 p2 p3 : Pos} (ok : XOk C W X) (ha : PE X a (tE C W ma)) : PE X (.Subscript a (.Slice none none (some (.UnaryOp .USub (.Constant (.int 1) k p1) p2)) p3) pos) (tE C W (one ma fun x e => match revop x with
    | some p => .ok (rof p) e
    | none => .bad)) :=
  PE_imp (pe_revA ok.k ha) fun σ H Q h => one_run (r := fun x H1 Q => ∃ F d p, Sub F H1 ∧ Insp C F H1 x d ∧ revop d = some p ∧ ∀ v H', NewV C F H1 v p H' → Q v H') h fun G Rs F H x dx e r hx q => by
    split at q
    · rename_i p hp
      exact ⟨F, dx, p, r.fh, hx, hp, fun v H' n => new_after r q n⟩
    · exact q.elim
theorem e_neg {ma : Nv → R VL} (ha : PE X a (tE C W ma)) : PE X (.UnaryOp .USub a pos) (tE C W fun n => (ma n).bind fun va e1 => (match intV e1 va with
    | some i => .ok (.fz (.int (-i))) e1
    | none => .bad)) :=
  PE_imp (pe_un un_neg ha) fun σ H Q ⟨G, Rs, F, n, rl, q⟩ => ⟨G, Rs, F, n, rl, q.bnd fun va e1 x F1 H1 _ s1 r1 h1 q1 => by
    split at q1
    · rename_i i hi
      unfold intV at hi
      split at hi
      · rename_i i' l1
        cases hi
        obtain rfl := (r1.look h1 l1).int
        exact ⟨i, rfl, q1 _ F1 H1 Sub.refl r1 (.int _)⟩
      · cases hi
    · exact q1.elim⟩
/-- a bool at hand -/
theorem bool_at {G : Hp} {Rs : Rv} {F H : Hp} {σ : L2.St} {e : Nv} {v : V} {vl : VL} {b : Bool} (r : Rel C G Rs F H σ e) (h : VRep C G Rs F H σ e v vl) (l : boolV e vl = some b) : v = .bl b := by
  unfold boolV at l
  split at l
  · rename_i b' l1
    cases l
    exact (r.look h l1).bl
  · cases l
def andM (ma mb : Nv → R VL) (n : Nv) : R VL := (ma n).bind fun va e1 => (match boolV e1 va with
    | some true => mb e1
    | some false => .ok (.fz (.bl false)) e1
    | none => .bad)
def orM (ma mb : Nv → R VL) (n : Nv) : R VL := (ma n).bind fun va e1 => (match boolV e1 va with
    | some true => .ok (.fz (.bl true)) e1
    | some false => mb e1
    | none => .bad)
def notM (ma : Nv → R VL) (n : Nv) : R VL := (ma n).bind fun va e1 => (match boolV e1 va with
    | some b => .ok (.fz (.bl (!b))) e1
    | none => .bad)
def ifeM (mc ma mb : Nv → R VL) (n : Nv) : R VL := (mc n).bind fun vc e1 => (match boolV e1 vc with
    | some true => ma e1
    | some false => mb e1
    | none => .bad)
theorem e_and {ma mb : Nv → R VL} {rest : List Expr} (ha : PE X a (tE C W ma)) (hb : PE X (.BoolOp .And (b :: rest) pos) (tE C W mb)) : PE X (.BoolOp .And (a :: b :: rest) pos) (tE C W (andM ma mb)) :=
  PE_imp (pe_and ha hb) fun σ H Q ⟨G, Rs, F, n, rl, q⟩ => ⟨G, Rs, F, n, rl, q.bnd fun va e1 x F1 H1 _ s1 r1 h1 q1 => by
    split at q1
    · rename_i l
      exact ⟨true, bool_at r1 h1 l, by rw [if_pos rfl]; exact ⟨G, Rs, F1, e1, r1, q1⟩⟩
    · rename_i l
      exact ⟨false, bool_at r1 h1 l, by rw [if_neg Bool.false_ne_true]; exact cmp_after r1 q1⟩
    · exact q1.elim⟩
theorem e_or {ma mb : Nv → R VL} {rest : List Expr} (ha : PE X a (tE C W ma)) (hb : PE X (.BoolOp .Or (b :: rest) pos) (tE C W mb)) : PE X (.BoolOp .Or (a :: b :: rest) pos) (tE C W (orM ma mb)) :=
  PE_imp (pe_or ha hb) fun σ H Q ⟨G, Rs, F, n, rl, q⟩ => ⟨G, Rs, F, n, rl, q.bnd fun va e1 x F1 H1 _ s1 r1 h1 q1 => by
    split at q1
    · rename_i l
      exact ⟨true, bool_at r1 h1 l, by rw [if_pos rfl]; exact cmp_after r1 q1⟩
    · rename_i l
      exact ⟨false, bool_at r1 h1 l, by rw [if_neg Bool.false_ne_true]; exact ⟨G, Rs, F1, e1, r1, q1⟩⟩
    · exact q1.elim⟩
theorem e_not {ma : Nv → R VL} (ha : PE X a (tE C W ma)) : PE X (.UnaryOp .Not a pos) (tE C W (notM ma)) :=
  PE_imp (pe_not ha) fun σ H Q ⟨G, Rs, F, n, rl, q⟩ => ⟨G, Rs, F, n, rl, q.bnd fun va e1 x F1 H1 _ s1 r1 h1 q1 => by
    split at q1
    · rename_i b l
      exact ⟨b, bool_at r1 h1 l, cmp_after r1 q1⟩
    · exact q1.elim⟩
/-- tests -/
theorem tst_cases {ma : Nv → R VL} {G : Hp} {Rs : Rv} {F : Hp} {σ : L2.St} {α β : Type} {vr : VR α β} {Q : β → Hp → Prop} {n : Nv} {f : Bool → Nv → R α} {Q1 : Bool → Hp → Prop}
    (q : After C W G Rs σ F vr Q ((ma n).bind fun va e1 => (match boolV e1 va with
      | some b => f b e1
      | none => .bad)))
    (k : ∀ b e1 F1 H1, Sub F F1 → Rel C G Rs F1 H1 σ e1 → After C W G Rs σ F1 vr Q (f b e1) → Q1 b H1) : After C W G Rs σ F vEq Q1 (tst ma n) := by
  unfold tst
  cases hm : ma n with
  | ok va e1 =>
    rw [hm] at q
    simp only [R.bind] at q ⊢
    cases hb : boolV e1 va with
    | none => rw [hb] at q; exact q.elim
    | some b =>
      rw [hb] at q
      intro v F' H' s r e
      obtain rfl : v = b := e
      exact k v e1 F' H' s r (After.mono s q)
  | exc c d e => rw [hm] at q; exact q
  | bad => rw [hm] at q; exact q.elim
theorem w_and {ma mb : Nv → R VL} {rest : List Expr} (ha : PT X a (tB C W ma)) (hb : PW X (.BoolOp .And (b :: rest) pos) (tB C W mb)) : PW X (.BoolOp .And (a :: b :: rest) pos) (tB C W (andM ma mb)) :=
  PW_imp (pw_and ha hb) fun σ H Q ⟨G, Rs, F, n, rl, q⟩ => ⟨G, Rs, F, n, rl, by
    refine tst_cases (f := fun b e1 => if b = true then tst mb e1 else .ok false e1) (vr := vEq) (Q := Q) ?_ fun b e1 F1 H1 s r q1 => ?_
    · refine Eq.mp (congrArg _ ?_) q
      unfold tst andM
      cases ma n with
      | ok va e1 =>
        simp only [R.bind]
        cases boolV e1 va with
        | none => rfl
        | some b => cases b <;> rfl
      | exc c d e => rfl
      | bad => rfl
    · cases b with
      | true => rw [if_pos rfl]; exact ⟨G, Rs, F1, e1, r, q1⟩
      | false => rw [if_neg Bool.false_ne_true]; exact q1 false F1 H1 Sub.refl r rfl⟩
theorem w_or {ma mb : Nv → R VL} {rest : List Expr} (ha : PT X a (tB C W ma)) (hb : PW X (.BoolOp .Or (b :: rest) pos) (tB C W mb)) : PW X (.BoolOp .Or (a :: b :: rest) pos) (tB C W (orM ma mb)) :=
  PW_imp (pw_or ha hb) fun σ H Q ⟨G, Rs, F, n, rl, q⟩ => ⟨G, Rs, F, n, rl, by
    refine tst_cases (f := fun b e1 => if b = true then .ok true e1 else tst mb e1) (vr := vEq) (Q := Q) ?_ fun b e1 F1 H1 s r q1 => ?_
    · refine Eq.mp (congrArg _ ?_) q
      unfold tst orM
      cases ma n with
      | ok va e1 =>
        simp only [R.bind]
        cases boolV e1 va with
        | none => rfl
        | some b => cases b <;> rfl
      | exc c d e => rfl
      | bad => rfl
    · cases b with
      | true => rw [if_pos rfl]; exact q1 true F1 H1 Sub.refl r rfl
      | false => rw [if_neg Bool.false_ne_true]; exact ⟨G, Rs, F1, e1, r, q1⟩⟩
theorem t_not {ma : Nv → R VL} (ha : PT X a (tB C W ma)) : PT X (.UnaryOp .Not a pos) (tB C W (notM ma)) :=
  PT_imp (pt_not ha) fun σ H Q ⟨G, Rs, F, n, rl, q⟩ => ⟨G, Rs, F, n, rl, by
    refine tst_cases (f := fun b e1 => .ok (!b) e1) (vr := vEq) (Q := Q) ?_ fun b e1 F1 H1 s r q1 => q1 _ F1 H1 Sub.refl r rfl
    refine Eq.mp (congrArg _ ?_) q
    unfold tst notM
    cases ma n with
    | ok va e1 =>
      simp only [R.bind]
      cases boolV e1 va with
      | none => rfl
      | some b => cases b <;> rfl
    | exc c d e => rfl
    | bad => rfl⟩
theorem e_ife {mc ma mb : Nv → R VL} (hc : PT X c (tB C W mc)) (ha : PE X a (tE C W ma)) (hb : PE X b (tE C W mb)) : PE X (.IfExp c a b pos) (tE C W (ifeM mc ma mb)) :=
  PE_imp (pe_ifExp hc ha hb) fun σ H Q ⟨G, Rs, F, n, rl, q⟩ => ⟨G, Rs, F, n, rl, by
    refine tst_cases (f := fun b e1 => if b = true then ma e1 else mb e1) (vr := vV C) (Q := Q) ?_ fun b e1 F1 H1 s r q1 => ?_
    · refine Eq.mp (congrArg _ ?_) q
      unfold ifeM
      cases mc n with
      | ok va e1 =>
        simp only [R.bind]
        cases boolV e1 va with
        | none => rfl
        | some b => cases b <;> rfl
      | exc c d e => rfl
      | bad => rfl
    · cases b with
      | true => rw [if_pos rfl]; exact ⟨G, Rs, F1, e1, r, q1⟩
      | false => rw [if_neg Bool.false_ne_true]; exact ⟨G, Rs, F1, e1, r, q1⟩⟩
theorem e_idx {ma mb : Nv → R VL} (ok : XOk C W X) (hn : ∀ l u s p, b ≠ .Slice l u s p) (ha : PE X a (tE C W ma)) (hb : PE X b (tE C W mb)) :
    PE X (.Subscript a b pos) (tE C W (two ma mb fun x y e => match ixop x y with
      | some d => .ok (.fz d) e
      | none => .bad)) :=
  PE_imp (pe_ix (ix_any ok.k ok.u) ha hb (plainIx b hn)) fun σ H Q h => two_run h fun G Rs F H x y dx dy e r hx hy q => by
    split at q
    · rename_i d hd
      exact ⟨F, dx, dy, d, r.fh, hx, hy, hd, fun v hv => q v F H Sub.refl r hv⟩
    · exact q.elim
theorem o_none : PO X none (tG C W vEq fun n => .ok none n) := PO_imp po_none fun σ H Q ⟨G, Rs, F, n, rl, q⟩ => q none F H Sub.refl rl rfl
theorem o_some {ma : Nv → R VL} (ha : PE X a (tE C W ma)) : PO X (some a) (tG C W vEq fun n => (ma n).bind fun v e1 => (match intV e1 v with
    | some i => .ok (some i) e1
    | none => .bad)) := PO_imp (po_some ha) fun σ H Q ⟨G, Rs, F, n, rl, q⟩ => ⟨G, Rs, F, n, rl, q.bnd fun v e1 x F1 H1 _ s1 r1 h1 q1 => by
      split at q1
      · rename_i i hi
        unfold intV at hi
        split at hi
        · rename_i i' l1
          cases hi
          exact ⟨i, (r1.look h1 l1).int, q1 _ F1 H1 Sub.refl r1 rfl⟩
        · cases hi
      · exact q1.elim⟩
theorem e_slc {ma : Nv → R VL} {ml mh : Nv → R (Option Int)} {lo hi : Option Expr} {p2 : Pos} (ok : XOk C W X) (ha : PE X a (tE C W ma)) (hl : PO X lo (tG C W vEq ml)) (hh : PO X hi (tG C W vEq mh)) :
    PE X (.Subscript a (.Slice lo hi none p2) pos) (tE C W fun n => (ma n).bind fun va e1 => (ml e1).bind fun l e2 => (mh e2).bind fun h e3 => (match lkv e3 va with
      | some x => (match slop x l h with
        | some p => .ok (rof p) e3
        | none => .bad)
      | none => .bad)) :=
  PE_imp (pe_slice (sl_any ok.k) ha hl hh) fun σ H Q ⟨G, Rs, F, n, rl, q⟩ => ⟨G, Rs, F, n, rl, q.bnd fun va e1 x F1 H1 _ s1 r1 h1 q1 => by
    obtain ⟨F2, s2, r2, h2⟩ := VRep.settle r1 h1
    refine ⟨G, Rs, F2, e1, r2, (After.mono s2 q1).bnd fun l e2 l' F3 H3 _ s3 r3 h3 q2 => ?_⟩
    obtain rfl : l' = l := h3
    refine ⟨G, Rs, F3, e2, r3, q2.bnd fun h e3 h' F4 H4 _ s4 r4 h4 q3 => ?_⟩
    obtain rfl : h' = h := h4
    split at q3
    · rename_i dx l1
      split at q3
      · rename_i p hp
        exact ⟨F4, dx, p, r4.fh, r4.look (h2.keepS (s3.trans s4)) (lkv_set.trans l1), hp, fun v H' nv => new_after r4 q3 nv⟩
      · exact q3.elim
    · exact q3.elim⟩
theorem e_blt {id : String} {x : Str} {p0 : Pos} {bb : Blt} {es : List Expr} {ma : Nv → R (List VL)} (hcall : CallR X (.builtin id) (rBlt C bb) ∧ bootBuiltins x = some (.builtin id) ∨ CallR X (.type id) (rBlt C bb) ∧ bootBuiltins x = some (.type id)) (hg : Gl X x) (hm : X.mg x = none) (hx : x ≠ "__name__") (hd : (x == ("__debug__" : Str)) = false)
    (hn : (a :: es).all notStar = true) (ha : PA X (a :: es) (tL C W ma)) :
    PE X (.Call (.Name x p0) (a :: es) [] pos) (tE C W fun n => (ma n).bind fun vs e1 => (match vs.mapM (lkv e1) with
      | some ds => (match bltop bb ds with
        | some p => .ok (rof p) e1
        | none => .bad)
      | none => .bad)) := by
  rw [List.all_cons, Bool.and_eq_true] at hn
  have fin : ∀ σ H Q, tE C W (fun n => (ma n).bind fun vs e1 => (match vs.mapM (lkv e1) with
      | some ds => (match bltop bb ds with
        | some p => .ok (rof p) e1
        | none => .bad)
      | none => .bad)) σ H Q → tCB (rBlt C bb) (tL C W ma) σ H Q := fun σ H Q ⟨G, Rs, F, n, rl, q⟩ => ⟨G, Rs, F, n, rl, q.bnd fun vs e1 xs F1 H1 _ s1 r1 h1 q1 => by
    split at q1
    · rename_i ds z
      split at q1
      · rename_i p hp
        exact ⟨F1, ds, p, r1.fh, h1.insp r1 z, hp, fun v H' nv => new_after r1 q1 nv⟩
      · exact q1.elim
    · exact q1.elim⟩
  rcases hcall with ⟨hc, hv⟩ | ⟨hc, hv⟩
  · exact PE_imp (pe_callB hc hg hm hv ha hx hd (starEach_ns hn.1) (backTo_ns hn.2)) fin
  · exact PE_imp (pe_callTy hc hg hm hv ha hx hd (starEach_ns hn.1) (backTo_ns hn.2)) fin
theorem e_isi {p0 : Pos} {t : Ty} {tv : TE} (ok : XOk C W X) {ma : Nv → R VL} (ht : ∀ c, t = .cls c → C.cs c = true) (hg : Gl X "isinstance") (hm : X.mg "isinstance" = none) (ha : PE X a (tE C W ma)) (hb : PE X b (tC (tyV C t))) (hn : notStar a = true) (hn2 : notStar b = true) :
    PE X (.Call (.Name "isinstance" p0) [a, b] [] pos) (tE C W (one ma fun x e => match isiD t x with
      | some q => .ok (.fz (.bl q)) e
      | none => .bad)) :=
  PE_imp (pe_callB (call_isA ok.k ok.is t) hg hm (by decide +kernel) (pa_cons ha (pa_cons hb pa_nil (starEach_ns hn2)) (starEach_ns hn)) (by decide) (by decide) (starEach_ns hn) (backTo_ns (by simp [hn2]))) fun σ H Q h =>
    one_run (r := fun x H1 Q => rIsA C t [x, tyV C t] H1 Q) h fun G Rs F H x dx e r hx q => by
      split at q
      · rename_i b' hb'
        exact ⟨F, x, dx, b', rfl, r.fh, hx, hb', ht, cmp_after r q⟩
      · exact q.elim
end
end RT

set_option Elab.async false
set_option linter.all false
set_option maxRecDepth 100000
/-! CoreI: fields, instances, methods of lists. -/
namespace RT
open PySem PySem.Spec PyProof.Rows L2

theorem plainO_ok {e : Expr} {f : Str} {env : Env} (h : plainO e = true) : attributeBase e f env (eval e env) = eval e env := by
  cases e <;> first | rfl | (cases h; done) | skip
  rename_i fn args kw pos
  cases args with
  | nil => cases h
  | cons a as => cases fn <;> rfl
section
variable {C : Ct} {W : WX} {X : Cx} {G : Hp} {Rs : Rv} {F F' H H' : Hp} {σ : L2.St} {e : Nv} {v : V} {a b c : Expr} {pos : Pos}
theorem RepO.get : ∀ {vs : List (Option V)} {fs : List (Option D)} {k : Nat} {d : D}, RepO C F vs fs → fs[k]? = Option.some (Option.some d) → ∃ v, vs[k]? = Option.some (Option.some v) ∧ Rep C F v d
  | _, _, _, _, .nil, e => by simp at e
  | _, _, 0, _, .none _, e => by simp at e
  | _, _, 0, _, .some h _, e => by simp at e; subst e; exact ⟨_, by simp, h⟩
  | _, _, k + 1, _, .none r, e => by
    obtain ⟨v, h1, h2⟩ := RepO.get (k := k) r (by simpa using e)
    exact ⟨v, by simpa using h1, h2⟩
  | _, _, k + 1, _, .some _ r, e => by
    obtain ⟨v, h1, h2⟩ := RepO.get (k := k) r (by simpa using e)
    exact ⟨v, by simpa using h1, h2⟩
theorem RepO.length : ∀ {vs : List (Option V)} {fs : List (Option D)}, RepO C F vs fs → vs.length = fs.length
  | _, _, .nil => rfl
  | _, _, .none r => by simp [RepO.length r]
  | _, _, .some _ r => by simp [RepO.length r]
theorem RepO.append : ∀ {vs ws : List (Option V)} {fs gs : List (Option D)}, RepO C F vs fs → RepO C F ws gs → RepO C F (vs ++ ws) (fs ++ gs)
  | _, _, _, _, .nil, q => q
  | _, _, _, _, .none r, q => .none (RepO.append r q)
  | _, _, _, _, .some h r, q => .some h (RepO.append r q)
theorem RepO.nones : ∀ n : Nat, RepO C F (List.replicate n Option.none) (List.replicate n Option.none)
  | 0 => .nil
  | n + 1 => .none (RepO.nones n)
theorem RepO.set {d : D} (h : Rep C F v d) : ∀ {vs : List (Option V)} {fs : List (Option D)} (k : Nat), RepO C F vs fs → RepO C F (vs.set k (Option.some v)) (fs.set k (Option.some d))
  | _, _, _, .nil => .nil
  | _, _, 0, .none r => .some h r
  | _, _, 0, .some _ r => .some h r
  | _, _, k + 1, .none r => .none (RepO.set h k r)
  | _, _, k + 1, .some q r => .some q (RepO.set h k r)
theorem RepO.put {d : D} {k : Nat} {vs : List (Option V)} {fs : List (Option D)} (r : RepO C F vs fs) (h : Rep C F v d) : RepO C F (SlX.putS k v vs) ((fs ++ List.replicate (k + 1 - fs.length) Option.none).set k (Option.some d)) := by
  unfold SlX.putS
  rw [r.length]
  exact RepO.set h k (r.append (RepO.nones _))
theorem e_fld {ma : Nv → R VL} {cl k : Nat} {f : Str} (ok : XOk C W X) (hs : ∃ p, SlX.Slot1 C.K (C.clA cl) f p k) (hb : plainO a = true) (ha : PE X a (tE C W ma)) :
    PE X (.Attribute a f pos) (tE C W (one ma fun x e => match x with
      | .obj c' fs => if cl = c' then (match fs[k]? with
        | some (some d) => .ok (.fz d) e
        | _ => .bad) else .bad
      | _ => .bad)) :=
  PE_imp (SlX.pe_sl ha (plainO_ok hb)) fun σ H Q h =>
    one_run (r := fun x H1 Q => ∃ a C' dx p vs i v, x = V.ref a ∧ SlX.Slt H1 a C' dx vs ∧ SlX.SCls X.K C' ∧ SlX.Slot1 X.K C' f p i ∧ vs[i]? = some (some v) ∧ Q v H1) h fun G Rs F H x dx e r hx q => by
      split at q
      · rename_i c' fs
        split at q
        · rename_i hc
          subst hc
          split at q
          · rename_i d hd
            obtain ⟨a', dx', vs, rfl, kc, hs', ro⟩ := hx.obj' r.fh
            obtain ⟨v, h1, h2⟩ := ro.get hd
            obtain ⟨p, hp⟩ := hs
            exact ⟨a', C.clA cl, dx', p, vs, k, v, rfl, hs', by rw [ok.k]; exact (ok.is.cl cl kc).1, by rw [ok.k]; exact hp, h1, q v F H Sub.refl r h2⟩
          · exact q.elim
        · exact q.elim
      · exact q.elim
/-- a property of a class -/
structure PropK (C : Ct) (cl f : Nat) (x : Str) : Prop where
  ex : ∃ p, PySem.W.findIn C.K (.ref (C.clA cl)) x = some (some (.ref p)) ∧ PySem.W.specialIn C.K (.ref p) "__get__" = some (some (.builtin "property.__get__")) ∧ PySem.W.takesIn C.K (.ref p) = some true ∧
    ∃ rest, PySem.W.recIn C.K p "property" = some (.ref (C.fnA f) :: rest)
/-- how a def is known by values -/
structure CallR1 (C : Ct) (X : Cx) (cb : Cal) (n f : Nat) (io : Bool) (np : Nat) : Prop where
  ar : ∀ ds : List D, ds.length ≠ np → cb f ds = .bad
  ok : ∃ fd ps, FnOk X.prog X.w X.K X.mg X.base (L2.CX X.prog X.w) (2 * n) (C.fnA f) fd ps (spF C cb f io np) ∧ Binds X.K fd ps []
theorem CallR1.raw {cb : Cal} {n f np : Nat} {io : Bool} (c : CallR1 C X cb n f io np) : FnR X.prog X.w X.K X.mg X.base (L2.CX X.prog X.w) (2 * n) (C.fnA f) (spF C cb f io np) := by
  obtain ⟨fd, ps, fok, hb⟩ := c.ok
  have z := fok.raw hb (dvs := []) .nil
  exact z.imp fun vs H Q E h => by rw [List.append_nil]; exact h
theorem cx_false {P : Program} {w : World} {outer : List Env} {H : Hp} {s : Shared} {u : Value} {s' : Shared} (h : L2.CX P w outer H s (fun _ _ _ => False) u s') : False := by
  obtain ⟨a, B, H', cls, d, _, _, _, _, _, _, _, z⟩ := h
  exact z
theorem e_prop {cb : Cal} {n : Nat} {ma : Nv → R VL} {cl f : Nat} {x : Str} (ok : XOk C W X) (hr : Room (2 * n + 1) X.A) (kc : C.cs cl = true) (pk : PropK C cl f x) (c1 : CallR1 C X cb n f false 1) (hb : plainO a = true) (ha : PE X a (tE C W ma)) :
    PE X (.Attribute a x pos) (tE C W fun n => (ma n).bind fun va e1 => (match va with
      | .fz (.obj c' fs) => if cl = c' then (match cb f [.obj c' fs] with
        | .ok fr r _ => .ok (rof (fr, r)) e1
        | _ => .bad) else .bad
      | _ => .bad)) := by
  obtain ⟨p, h1, h2, h3, h4⟩ := pk.ex
  rw [← ok.k] at h1 h2 h3 h4
  refine PE_imp (SlX.pe_propSl (E := fun _ _ _ => False) ha (by rw [ok.k]; exact (ok.is.cl cl kc).1) h1 h2 h3 h4 c1.raw hr (fun H s e s' z => cx_false z) (plainO_ok hb)) fun σ H Q ⟨G, Rs, F, n, rl, q⟩ => ⟨G, Rs, F, n, rl, q.bnd fun va e1 x F1 H1 _ s1 r1 h1 q1 => ?_⟩
  split at q1
  · rename_i c' fs _
    split at q1
    · rename_i hc
      subst hc
      have hx : Rep C F1 x (.obj cl fs) := h1
      cases hx with
      | @obj a dx vs _ _ k0 hs ro =>
        refine ⟨a, dx, vs, rfl, r1.fh.slt hs, F1, r1.fh, rfl, ?_⟩
        rw [if_neg Bool.false_ne_true]
        refine ⟨[.obj cl fs], .cons (.obj k0 hs ro) .nil, ?_⟩
        split at q1
        · rename_i hcb
          rw [hcb]
          intro v F' H' k _ g
          have r' := r1.after k
          exact q1 v F' H' k.ff r' (g.vrep r1 r' fun i fl d' h _ => ⟨d', h⟩)
        · exact q1.elim
    · exact q1.elim
  · exact q1.elim
end
end RT

set_option Elab.async false
set_option linter.all false
set_option maxRecDepth 100000
/-! CoreJ: instances made; methods of lists and dicts. -/
namespace RT
open PySem PySem.Spec PyProof.Rows L2

section
variable {C : Ct} {W : WX} {X : Cx} {G : Hp} {Rs : Rv} {F F' H H' : Hp} {σ : L2.St} {e : Nv} {v : V} {a b c : Expr} {es : List Expr} {pos p0 apos : Pos}
def tMakeA (A : Addr) (sp : Sp) (E : L2.St → XK) (t : TA) : TE := fun σ H Q => t σ H fun vs H1 => ∀ x dx, H1 x = Option.none → H1 dx = Option.none → dx ≠ x →
  sp (V.ref x :: vs) (upd (upd H1 dx (.own x)) x (.ins A dx [])) (fun v H2 => v = .non ∧ Q (.ref x) H2) (E σ)
theorem run_makeA {CX : CXT} {k : Nat} {f A : Addr} {sp : Sp} {E : XK} {pins : List (Addr × Obj)} {s : Shared} {Q : VK} {us : List Value} {vs : List V} (M : Mk X.K A f) (R : FnR X.prog X.w X.K X.mg X.base CX k f sp) (hr : Room (k + 1) X.A) (hx : PassesAt CX X σ E) (I : Inv X pins σ H s) (r : Vals vs us)
    (h : ∀ x dx, H x = Option.none → H dx = Option.none → dx ≠ x → sp (V.ref x :: vs) (upd (upd H dx (.own x)) x (.ins A dx [])) (fun v H2 => v = .non ∧ Q (.ref x) H2) E) :
    wpAny (model X.prog X.w) X.A (call (.ref A) us) (EP X pins σ Q) X.xe s := by
  have hq := h (s.heap.objs.size + 1) s.heap.objs.size (I.hok.fresh (Nat.le_succ _)) (I.hok.fresh (Nat.le_refl _)) (Nat.ne_of_lt (Nat.lt_succ_self _))
  have I2 := Inv.made (C := A) I
  have r2 : Vals (V.ref (s.heap.objs.size + 1) :: vs) (Value.ref (s.heap.objs.size + 1) :: us) := .cons rfl r
  refine wpAny_call (make_map (f := f) I.kIn M.makes M.init (beq_iff_eq.mp M.fn) (codeAny_mono (R _ X.stack _ _ (Value.ref (s.heap.objs.size + 1) :: us) _ _ E (hr.make A us []) (I2.env0.make A us []) r2 hq) fun r s' hq' => ?_))
  cases r with
  | error e => exact hx pins _ _ e s' I2 hq'
  | ok fl =>
    cases fl with
    | ret u =>
      obtain ⟨v, H', I3, rv, ev, q3⟩ := I2.after hq'
      subst ev
      exact ⟨rv, ⟨V.ref (s.heap.objs.size + 1), H', I3, rfl, q3⟩⟩
    | next => exact False.elim hq'
    | brk => exact False.elim hq'
    | cont => exact False.elim hq'
theorem pe_makeA {CX : CXT} {k : Nat} {f A : Addr} {sp : Sp} {E : L2.St → XK} {x : Str} {t : TA} (M : Mk X.K A f) (R : FnR X.prog X.w X.K X.mg X.base CX k f sp) (hr : Room (k + 1) X.A) (hg : Gl X x) (hm : X.mg x = some (.ref A)) (hx : ∀ σ, PassesAt CX X σ (E σ)) (ha : PA X (a :: es) t) (hdb : (x == ("__debug__" : Str)) = false)
    (he : starEach (a :: es) X.env = (false, eval a X.env) :: starEach es X.env) (hpl : (backTo pos (starEach es X.env)).any (·.1) = false) : PE X (.Call (.Name x p0) (a :: es) [] pos) (tMakeA A sp E t) := by
  refine ⟨fun pins s σ H Q I h => ?_⟩
  refine wpAny_Call_Name_kw (ld_glob I hg hm ?_ hdb)
  refine PySem.W.callWith_K (h₀ := X.base) I.ok.mod.kin M.kp (thn (ha.run pos pins s σ H _ I h) fun us s1 ⟨vs, H1, I1, r, q⟩ => ⟨I1.kIn, ?_⟩) he hpl
  exact run_makeA M R hr (hx σ) I1 r q
/-- the cells of a made instance -/
theorem Hold.same {x dx : Addr} {d : D} (n : dx ≠ x) (h : Hold C F H x d (fun b => b = x ∨ b = dx)) : ∃ vs c fs, d = .obj c fs ∧ C.cs c = true ∧ Ob H x (C.clA c) dx vs ∧ F dx = none ∧ RepO C F vs fs := by
  generalize hO : (fun b => b = x ∨ b = dx) = O at h
  cases h with
  | l h =>
    have z : (dx = x ∨ dx = dx) = (dx = x) := congrFun hO dx
    exact absurd (z.mp (.inr rfl)) n
  | @obj dx' vs c fs a b c' d e =>
    have z : (dx' = x ∨ dx' = dx) = (dx' = x ∨ dx' = dx') := congrFun hO dx'
    have y : dx' = x ∨ dx' = dx := z.mpr (.inr rfl)
    rcases y with y | y
    · exact absurd y c'
    · subst y
      exact ⟨vs, c, fs, rfl, a, b, d, e⟩
/-- how a class of the text is known -/
structure ClsK (C : Ct) (X : Cx) (cb : Cal) (n c f : Nat) (x : Str) (np : Nat) : Prop where
  cs : C.cs c = true
  mg : X.mg x = some (.ref (C.clA c))
  dbg : (x == ("__debug__" : Str)) = false
  made : Mk X.K (C.clA c) (C.fnA f)
  fn : CallR1 C X cb n f true (np + 1)
theorem e_new {cb : Cal} {n cl f : Nat} {x : Str} {np : Nat} {ma : Nv → R (List VL)} (ok : XOk C W X) (hr : Room (2 * n + 1) X.A) (ck : ClsK C X cb n cl f x np) (hg : Gl X x) (hn : (a :: es).all notStar = true) (ha : PA X (a :: es) (tL C W ma)) :
    PE X (.Call (.Name x p0) (a :: es) [] pos) (tE C W fun n => (ma n).bind fun vs e1 => (match fzL e1 vs with
      | some (ds, e2) => (match cb f (.obj cl [] :: ds) with
        | .ok _ .non d' => .ok (.fz d') e2
        | .exc c v _ => .exc c v e2
        | _ => .bad)
      | none => .bad)) := by
  rw [List.all_cons, Bool.and_eq_true] at hn
  refine PE_imp (pe_makeA (E := WE W) ck.made ck.fn.raw hr hg ck.mg (fun σ => passAt ok.tk σ) ha ck.dbg (starEach_ns hn.1) (backTo_ns hn.2)) fun σ H Q h => ?_
  obtain ⟨G, Rs, F, n, r, q⟩ := h
  refine ⟨G, Rs, F, n, r, q.bnd fun vs e1 xs F1 H1 _ s1 r1 h1 q1 => ?_⟩
  split at q1
  case h_2 => exact q1.elim
  rename_i ds e2 z
  obtain ⟨F2, s2, r2, h2⟩ := h1.frozen r1 z
  have q2 := After.mono s2 q1
  intro y dy hy hdy ne
  have hU : Sub H1 (upd (upd H1 dy (.own y)) y (.ins (C.clA cl) dy [])) := (Sub.upd hdy).trans (Sub.upd (by rw [upd_ne (Ne.symm ne)]; exact hy))
  have fy : F2 y = none := (r2.fresh hy).1
  have fdy : F2 dy = none := (r2.fresh hdy).1
  have keyK : ∀ {F' H' : Hp}, Kept F2 (upd (upd H1 dy (.own y)) y (.ins (C.clA cl) dy [])) F' H' (fun b => b = y ∨ b = dy) → Kept F2 H1 F' H' (fun _ => False) := fun {F' H'} k => by
    refine ⟨k.ff, k.fh, fun b o h _ => k.keep b o (hU b o h) ?_, fun b h f _ => k.free b ?_ f ?_⟩
    · rintro (rfl | rfl)
      · rw [hy] at h; cases h
      · rw [hdy] at h; cases h
    · obtain ⟨o, ho⟩ := Option.ne_none_iff_exists'.mp h
      rw [hU b o ho]; exact nofun
    · rintro (rfl | rfl)
      · exact h hy
      · exact h hdy
  refine ⟨F2, r2.fh.trans hU, ?_, ?_⟩
  · rw [List.length_cons, h2.length]
    by_cases z : (D.obj cl [] :: ds).length = np + 1
    · exact z
    · rw [ck.fn.ar _ z] at q2
      exact q2.elim
  · rw [if_pos rfl]
    refine ⟨y, _, .obj cl [], ds, xs, rfl, fy, .obj ck.cs (.inl ⟨upd_same, rfl, ?_⟩) ne fdy .nil, h2, ?_⟩
    · rw [upd_ne ne]; exact upd_same
    split at q2 <;> rename_i hcb
    · rw [hcb]
      rename_i fr d'
      intro v F' H' k hh g
      obtain ⟨ny, hh⟩ := hh y rfl
      obtain ⟨vs', c', fs', rfl, kc, ob, fdx, ro⟩ := hh.same ne
      refine ⟨?_, ?_⟩
      · unfold Gives at g
        split at g
        · obtain ⟨_, _, _, _, g⟩ := g
          cases g
        · cases g; rfl
      · have k0 := keyK k
        have r3 := r2.after k0
        have s3 : Sub F' (fun b => if b = y ∨ b = dy then H' b else F' b) := fun b o h => by
          have : ¬ (b = y ∨ b = dy) := by
            rintro (rfl | rfl)
            · rw [ny] at h; cases h
            · rw [fdx] at h; cases h
          show (if _ then _ else _) = _
          rw [if_neg this]; exact h
        have k1 : Kept F2 H1 (fun b => if b = y ∨ b = dy then H' b else F' b) H' (fun _ => False) := by
          refine ⟨k0.ff.trans s3, fun b o h => ?_, k0.keep, fun b h f _ => ?_⟩
          · have h : (if b = y ∨ b = dy then H' b else F' b) = some o := h
            split at h
            · exact h
            · exact k.fh b o h
          · show (if _ then _ else _) = _
            have : ¬ (b = y ∨ b = dy) := by
              rintro (rfl | rfl)
              · exact h hy
              · exact h hdy
            rw [if_neg this]
            exact k0.free b h f (fun z => z)
        refine q2 (.ref y) _ H' k1.ff (r2.after k1) ?_
        refine Rep.obj (dx := dy) kc ?_ (ro.up s3)
        have e1 : (fun b => if b = y ∨ b = dy then H' b else F' b) y = H' y := if_pos (.inl rfl)
        have e2 : (fun b => if b = y ∨ b = dy then H' b else F' b) dy = H' dy := if_pos (.inr rfl)
        exact (Ob.at ob e1 e2).slt
    · rw [hcb]
      intro cls x F' H' k h
      have k0 := keyK k
      exact q2 F' H' cls x k.ff (r2.after k0) h
    · exact q2.elim

/-! ### methods -/
theorem isOwL_at {n : Nv} {i : Nat} (h : isOwL n i = true) : ∃ xs, n[i]? = some (some (Fl.ow, .lst xs)) := by
  unfold isOwL at h
  split at h
  · exact ⟨_, by assumption⟩
  · cases h
theorem Rel.owL {i : Nat} {xs : List D} (r : Rel C G Rs F H σ e) (h : e[i]? = some (some (Fl.ow, .lst xs))) : ∃ p vs, σ[i]? = some (some (V.ref p)) ∧ H p = some (.lst vs) ∧ RepL C F vs xs := by
  obtain ⟨p, h1, _, _, _, c⟩ := r.ow i _ _ h (by decide)
  cases c with
  | l c => cases c with | lst a b => exact ⟨p, _, h1, a, b⟩
theorem Rel.wrL {i : Nat} {xs ys : List D} {p : Addr} {vs ws : List V} (r : Rel C G Rs F H σ e) (h : e[i]? = some (some (Fl.ow, .lst xs))) (hp : σ[i]? = some (some (V.ref p))) (ha : H p = some (.lst vs)) (hb : RepL C F vs xs) (hw : RepL C F ws ys) :
    Rel C G Rs F (upd H p (.lst ws)) σ (e.set i (some (Fl.ow, .lst ys))) := r.write h (by decide) hp (.lst ha hb) (.lst upd_same hw)
theorem e_app {i : Nat} {y : Str} {py : Pos} {ma : Nv → R VL} (ok : XOk C W X) (hv : PE X (.Name y py) (tVar i)) (hn : notStar a = true) (hl : (apos.endLine == pos.line) = true) (ha : PE X a (tE C W ma)) :
    PE X (.Call (.Attribute (.Name y py) "append" apos) [a] [] pos) (tE C W fun n => if isOwL n i then (ma n).bind fun va e1 => (match fzv e1 va with
      | some (d, e2) => (match e2[i]? with
        | some (some (.ow, .lst xs)) => if xs.length < lim then .ok (.fz .non) (e2.set i (some (.ow, .lst (xs ++ [d])))) else .bad
        | _ => .bad)
      | none => .bad) else .bad) := by
  refine PE_imp (pe_bm PySem.F.plainAttrs_list PySem.F.slot_list_append PySem.F.type_list_append mt_append hv (pa_cons ha pa_nil (starEach_ns hn)) (plainO_ok rfl) (by rw [starEach_ns hn]; rfl) hl (starEach_ns hn) rfl) fun σ H Q h => ?_
  obtain ⟨G, Rs, F, n, r, q⟩ := h
  dsimp only at q
  split at q
  case isFalse => exact q.elim
  rename_i hown
  obtain ⟨xs0, h0⟩ := isOwL_at hown
  obtain ⟨p, vs0, hs, hp0, _⟩ := r.owL h0
  refine ⟨_, hs, .inl ⟨rfl, vs0, .inl (.inl hp0)⟩, G, Rs, F, n, r, ?_⟩
  refine q.bnd fun va e1 x F1 H1 _ s1 r1 h1 q1 => ?_
  split at q1
  case h_2 => exact q1.elim
  rename_i d e2 z
  obtain ⟨F2, s2, r2, h2⟩ := h1.frozen r1 z
  have q1 := After.mono s2 q1
  split at q1
  case h_2 => exact q1.elim
  rename_i xs hx
  split at q1
  case isFalse => exact q1.elim
  rename_i hz
  obtain ⟨p', vs, hs', hp, rv⟩ := r2.owL hx
  rw [hs] at hs'; cases hs'
  refine ⟨p, vs, x, rfl, rfl, hp, by rw [rv.length, ← lim_eq]; exact hz, ?_⟩
  exact q1 .non F2 _ Sub.refl (r2.wrL hx hs hp rv (rv.append (.cons h2 .nil))) .non
theorem e_pop0 {i : Nat} {y : Str} {py : Pos} (hv : PE X (.Name y py) (tVar i)) (hl : (apos.endLine == pos.line) = true) :
    PE X (.Call (.Attribute (.Name y py) "pop" apos) [] [] pos) (tE C W fun e => (match e[i]? with
      | some (some (.ow, .lst xs)) => (match xs[xs.length - 1]? with
        | some d => .ok (.fz d) (e.set i (some (.ow, .lst xs.dropLast)))
        | none => .bad)
      | _ => .bad)) := by
  refine PE_imp (pe_bm0 PySem.F.plainAttrs_list PySem.F.slot_list_pop PySem.F.type_list_pop mt_pop hv (plainO_ok rfl) hl) fun σ H Q h => ?_
  obtain ⟨G, Rs, F, n, r, q⟩ := h
  dsimp only at q
  split at q
  case h_2 => exact q.elim
  rename_i xs h0
  split at q
  case h_2 => exact q.elim
  rename_i d hd
  obtain ⟨p, vs, hs, hp, rv⟩ := r.owL h0
  obtain ⟨w, hw, rw'⟩ := rv.get hd
  refine ⟨_, hs, .inl ⟨rfl, vs, .inl (.inl hp)⟩, p, vs, w, rfl, rfl, hp, by rw [rv.length]; exact hw, ?_⟩
  exact q w F _ Sub.refl (r.wrL h0 hs hp rv rv.dropLast) rw'
theorem e_pop1 {i : Nat} {y : Str} {py : Pos} {ma : Nv → R VL} (hv : PE X (.Name y py) (tVar i)) (hn : notStar a = true) (hl : (apos.endLine == pos.line) = true) (ha : PE X a (tE C W ma)) :
    PE X (.Call (.Attribute (.Name y py) "pop" apos) [a] [] pos) (tE C W fun e => if isOwL e i then (ma e).bind fun va e1 => (match e1[i]?, intV e1 va with
      | some (some (.ow, .lst xs)), some k => if 0 ≤ k ∧ k < 9223372036854775808 then (match xs[k.toNat]? with
        | some d => .ok (.fz d) (e1.set i (some (.ow, .lst (xs.eraseIdx k.toNat))))
        | none => .bad) else .bad
      | _, _ => .bad) else .bad) := by
  refine PE_imp (pe_bm PySem.F.plainAttrs_list PySem.F.slot_list_pop PySem.F.type_list_pop mt_popAt hv (pa_cons ha pa_nil (starEach_ns hn)) (plainO_ok rfl) (by rw [starEach_ns hn]; rfl) hl (starEach_ns hn) rfl) fun σ H Q h => ?_
  obtain ⟨G, Rs, F, n, r, q⟩ := h
  dsimp only at q
  split at q
  case isFalse => exact q.elim
  rename_i hown
  obtain ⟨xs0, h0⟩ := isOwL_at hown
  obtain ⟨p, vs0, hs, hp0, _⟩ := r.owL h0
  refine ⟨_, hs, .inl ⟨rfl, vs0, .inl (.inl hp0)⟩, G, Rs, F, n, r, ?_⟩
  refine q.bnd fun va e1 x F1 H1 _ s1 r1 h1 q1 => ?_
  split at q1
  case h_2 => exact q1.elim
  rename_i xs k hx hk
  split at q1
  case isFalse => exact q1.elim
  rename_i hz
  split at q1
  case h_2 => exact q1.elim
  rename_i d hd
  obtain ⟨p', vs, hs', hp, rv⟩ := r1.owL hx
  rw [hs] at hs'; cases hs'
  obtain ⟨w, hw, rw'⟩ := rv.get hd
  have hxi : x = .int k := by
    unfold intV at hk
    split at hk
    · rename_i i' l1
      cases hk
      exact (r1.look h1 l1).int
    · cases hk
  subst hxi
  have hlt : k.toNat < vs.length := by
    rw [rv.length]
    exact (List.getElem?_eq_some_iff.mp hd).1
  refine ⟨p, vs, k, k.toNat, w, rfl, rfl, hp, by omega, by omega, ?_, hw, ?_⟩
  · unfold seqIndex?
    simp only [if_neg (show ¬ k < 0 by omega)]
    rw [if_pos (by simp; omega)]
  · exact q1 w F1 _ Sub.refl (r1.wrL hx hs hp rv (rv.eraseIdx _)) rw'
theorem e_ext {i : Nat} {y : Str} {py : Pos} {ma : Nv → R VL} (ok : XOk C W X) (hv : PE X (.Name y py) (tVar i)) (hn : notStar a = true) (hl : (apos.endLine == pos.line) = true) (ha : PE X a (tE C W ma)) :
    PE X (.Call (.Attribute (.Name y py) "extend" apos) [a] [] pos) (tE C W fun n => if isOwL n i then (ma n).bind fun va e1 => (match lkv e1 va, e1[i]? with
      | some (.lst ys), some (some (.ow, .lst xs)) => if xs.length + ys.length ≤ lim then .ok (.fz .non) (e1.set i (some (.ow, .lst (xs ++ ys)))) else .bad
      | _, _ => .bad) else .bad) := by
  refine PE_imp (pe_bm PySem.F.plainAttrs_list PySem.F.slot_list_extend PySem.F.type_list_extend mt_extend hv (pa_cons ha pa_nil (starEach_ns hn)) (plainO_ok rfl) (by rw [starEach_ns hn]; rfl) hl (starEach_ns hn) rfl) fun σ H Q h => ?_
  obtain ⟨G, Rs, F, n, r, q⟩ := h
  dsimp only at q
  split at q
  case isFalse => exact q.elim
  rename_i hown
  obtain ⟨xs0, h0⟩ := isOwL_at hown
  obtain ⟨p, vs0, hs, hp0, _⟩ := r.owL h0
  refine ⟨_, hs, .inl ⟨rfl, vs0, .inl (.inl hp0)⟩, G, Rs, F, n, r, ?_⟩
  refine q.bnd fun va e1 x F1 H1 _ s1 r1 h1 q1 => ?_
  split at q1
  case h_2 => exact q1.elim
  rename_i ys xs hy hx
  split at q1
  case isFalse => exact q1.elim
  rename_i hz
  obtain ⟨F2, s2, r2, h2⟩ := VRep.settle r1 h1
  have hy' : lkv e1 va.set = some (.lst ys) := by rw [lkv_set]; exact hy
  obtain ⟨b, zs, rfl, hb, rz⟩ := (r2.look h2 hy').lst' r2.fh
  have q1 := After.mono s2 q1
  obtain ⟨p', vs, hs', hp, rv⟩ := r2.owL hx
  rw [hs] at hs'; cases hs'
  refine ⟨p, b, vs, zs, rfl, rfl, hp, hb, by rw [rv.length, rz.length, ← lim_eq]; exact hz, ?_⟩
  exact q1 .non F2 _ Sub.refl (r2.wrL hx hs hp rv (rv.append rz)) .non
theorem isDct_at {n : Nv} {vl : VL} (h : isDct n vl = true) : ∃ kvs, lkv n vl = some (.dct kvs) := by
  unfold isDct at h
  split at h
  · exact ⟨_, by assumption⟩
  · cases h
theorem e_get {b : Expr} {c : Expr} {ma mb mc : Nv → R VL} (ok : XOk C W X) (hb0 : plainO a = true) (hnb : notStar b = true) (hnc : notStar c = true) (hl : (apos.endLine == pos.line) = true) (ha : PE X a (tE C W ma)) (hb : PE X b (tE C W mb)) (hc : PE X c (tE C W mc)) :
    PE X (.Call (.Attribute a "get" apos) [b, c] [] pos) (tE C W fun n => (ma n).bind fun va e1 => if isDct e1 va then (mb e1).bind fun vk e2 => (mc e2).bind fun vd e3 => (match lkv e3 va, lkv e3 vk, fzv e3 vd with
      | some (.dct kvs), some y, some (z, e4) => (match keyD y with
        | some q => .ok (.fz ((getK kvs q).getD z)) e4
        | none => .bad)
      | _, _, _ => .bad) else .bad) := by
  refine PE_imp (pe_dget2 (by have := ok.u; omega) ha hb hc ⟨plainO_ok hb0, by rw [starEach_ns hnb, starEach_ns hnc]; rfl, hl, by rw [starEach_ns hnb, starEach_ns hnc]; rfl⟩) fun σ H Q h => ?_
  obtain ⟨G, Rs, F, n, r, q⟩ := h
  refine ⟨G, Rs, F, n, r, q.bnd fun va e1 x F1 H1 _ s1 r1 h1 q1 => ?_⟩
  split at q1
  case isFalse => exact q1.elim
  rename_i hd
  obtain ⟨kv0, l0⟩ := isDct_at hd
  obtain ⟨p, vs0, rfl, hp0, _⟩ := (r1.look h1 l0).dct' r1.fh
  obtain ⟨F2, s2, r2, h2⟩ := VRep.settle r1 h1
  refine ⟨p, rfl, .inl ⟨vs0, hp0⟩, G, Rs, F2, e1, r2, (After.mono s2 q1).bnd fun vk e2 y F3 H3 _ s3 r3 h3 q2 => ?_⟩
  obtain ⟨F4, s4, r4, h4⟩ := VRep.settle r3 h3
  refine ⟨G, Rs, F4, e2, r4, (After.mono s4 q2).bnd fun vd e3 z F5 H5 _ s5 r5 h5 q3 => ?_⟩
  split at q3
  case h_2 => exact q3.elim
  rename_i kvs dy dz e4 l1 l2 z1
  split at q3
  case h_2 => exact q3.elim
  rename_i k hk
  obtain ⟨p', vs, ep, hp, rk⟩ := (r5.look (h2.keepS (s3.trans (s4.trans s5))) (lkv_set.trans l1)).dct' r5.fh
  cases ep
  have hy : y = kV k := by
    have hy := r5.look (h4.keepS s5) (lkv_set.trans l2)
    cases dy <;> simp only [keyD, Option.some.injEq, reduceCtorEq] at hk
    · subst hk; exact hy.int
    · subst hk; exact hy.str
  obtain ⟨F6, s6, r6, h6⟩ := h5.frozen r5 z1
  refine ⟨valV vs k, .inl ⟨vs, k, hp, hy, rfl⟩, ?_⟩
  refine q3 _ F6 H5 s6 r6 ?_
  obtain ⟨k1, k2⟩ := rk.val k
  cases hg : getK kvs k with
  | none => rw [k2 hg]; exact h6
  | some d =>
    obtain ⟨w, h7, h8⟩ := k1 d hg
    rw [h7]
    exact h8.up s6
end
end RT

set_option Elab.async false
set_option linter.all false
set_option maxRecDepth 100000
set_option maxHeartbeats 1000000
/-! CoreK: what is walked. -/
namespace RT
open PySem PySem.Spec PyProof.Rows L2

/-! ### lists and tuples alike -/
def SqB (K : PySem.W.Frag) (k : Bool) (H : Hp) (a : Addr) (xs : List V) : Prop := if k = true then SqL K H a xs else SqT K H a xs
def IterB (k : Bool) (h : Heap) (it a : Addr) (i : Nat) : Prop := if k = true then h.IsListIter it a i else h.IsTupleIter it a i
def IsB (k : Bool) (h : Heap) (a : Addr) (its : Array Value) : Prop := if k = true then h.IsList a its else h.IsTuple a its
def oB (k : Bool) (a : Addr) : Obj := if k = true then { cls := .type "list_iterator", data := .fields #[.ref a, .int 0 0] } else { cls := .type "tuple_iterator", data := .fields #[.ref a, .int 0 0] }
theorem begins_B (k : Bool) (a : Addr) (its : Array Value) : Begins (.ref a) (oB k a) fun h => IsB k h a its := by
  cases k with
  | true => exact begins_list a its
  | false => exact begins_tuple a its
theorem iterB_new (k : Bool) {h : Heap} {it a : Addr} (e : h.get? it = some (oB k a)) : IterB k h it a 0 := by
  cases k with
  | true => exact ⟨_, e, rfl, rfl⟩
  | false => exact ⟨_, e, rfl, rfl⟩
theorem iterB_obj (k : Bool) {h : Heap} {it a : Addr} {i : Nat} (e : IterB k h it a i) : ∃ o, h.get? it = some o ∧ ∀ v, o.data ≠ .cell v := by
  cases k with
  | true => obtain ⟨o, e, c, d⟩ := e; exact ⟨o, e, fun v z => by rw [d] at z; cases z⟩
  | false => obtain ⟨o, e, c, d⟩ := e; exact ⟨o, e, fun v z => by rw [d] at z; cases z⟩
theorem iterB_at (k : Bool) {h h' : Heap} {it a : Addr} {i : Nat} (e : IterB k h it a i) (t : ∀ o, h.get? it = some o → h'.get? it = some o) : IterB k h' it a i := by
  cases k with
  | true => exact Heap.IsListIter.at (show h.IsListIter it a i from e) t
  | false => exact Heap.IsTupleIter.at (show h.IsTupleIter it a i from e) t
theorem draws_B {prog : Program} {w : World} {A : Around} (hh : A.handled = none) (k : Bool) (it a : Addr) (hne : a ≠ it) (its : Array Value) :
    Draws prog w A it [it, a] its.size (fun i v => its[i]? = some v) (fun i h => IterB k h it a i ∧ IsB k h a its) := by
  cases k with
  | true => exact Draws.list hh it a hne its
  | false => exact Draws.tuple hh it a hne its
theorem Inv.sqB {X : Cx} {pins : List (Addr × Obj)} {σ : L2.St} {H : Hp} {s : Shared} {k : Bool} {a : Addr} {xs : List V} (I : Inv X pins σ H s) (h : SqB X.K k H a xs) :
    ∃ its, Vals xs its ∧ IsB k s.heap a its.toArray ∧ a < s.heap.objs.size := by
  cases k with
  | true =>
    obtain ⟨its, rv, p, _⟩ := I.list (show SqL X.K H a xs from h)
    exact ⟨its, rv, p.isList, p.lt⟩
  | false =>
    obtain ⟨its, rv, p, _⟩ := I.tuple (show SqT X.K H a xs from h)
    obtain ⟨o, ho, _⟩ := id p
    exact ⟨its, rv, p, Heap.lt_size ho⟩
theorem Inv.sqB_inj {X : Cx} {pins : List (Addr × Obj)} {σ : L2.St} {H : Hp} {s : Shared} {k : Bool} {a : Addr} {xs ys : List V} (I : Inv X pins σ H s) (h : SqB X.K k H a xs) (h' : SqB X.K k H a ys) : xs = ys := by
  cases k with
  | true => exact I.list_inj h h'
  | false => exact I.tuple_inj h h'

/-! ### enumerate -/
def ItE (K : PySem.W.Frag) (k : Bool) (a : Addr) : It :=
  ⟨fun i H => ∃ (xs : List V) (x : V), SqB K k H a xs ∧ xs[i]? = some x, fun i H v H' => ∃ T x, v = .ref T ∧ H T = none ∧ H' = upd H T (.tup [.int (i : Nat), x]) ∧ ∀ xs, SqB K k H a xs → xs[i]? = some x, fun i H => ∃ xs : List V, SqB K k H a xs ∧ xs.length = i⟩
theorem turn_enumB {P : Program} {w : World} {K : PySem.W.Frag} {elts : List Expr} {kk : Nat} {tpos : Pos} (k : Bool) (a e it : Addr) :
    Turn P w K (.Tuple elts kk tpos) (ItE K k a) [e, it] e (fun i h => (∃ old, IsEnum h e it ((i : Nat) : Int) old) ∧ IterB k h it a i ∧ e ≠ it ∧ a ≠ it ∧ e ≠ a) where
  mem := List.mem_cons_self ..
  obj := fun i h st b hb => by
    obtain ⟨⟨old, he⟩, hi, _⟩ := st
    rcases List.mem_cons.mp hb with z | z
    · subst z; exact ⟨_, he, fun v q => nomatch q⟩
    · obtain rfl : b = it := List.mem_singleton.mp z
      exact iterB_obj k hi
  keep := fun i h h' st t => by
    obtain ⟨⟨old, he⟩, hi, n1, n2, n3⟩ := st
    exact ⟨⟨old, t e (by simp) _ he⟩, iterB_at k hi fun o q => t it (by simp) o q, n1, n2, n3⟩
  item := by
    intro X hP hw hK hc i pins s σ H E I hf st hg
    subst hP hw hK
    obtain ⟨⟨old, he⟩, hit, n1, n2, n3⟩ := st
    obtain ⟨xs, x, hq, hx⟩ := hg
    obtain ⟨its, rv, p, hal⟩ := Inv.sqB I hq
    obtain ⟨u, hu, ru⟩ := rv.get hx
    have hlt : i < its.toArray.size := by
      rw [List.size_toArray, ← rv.length]
      exact (List.getElem?_eq_some_iff.mp hx).1
    have hel : e < s.heap.objs.size := Heap.lt_size he
    have hil : it < s.heap.objs.size := by obtain ⟨_, q, _⟩ := iterB_obj k hit; exact Heap.lt_size q
    have hh : X.A.in1.handled = none := I.ok.hd hc
    have hef : e ∉ [it, a] := by
      intro z
      rcases List.mem_cons.mp z with z | z
      · exact n1 z
      · exact n3 (List.mem_singleton.mp z)
    refine wpAny_pyNext_enum_itemC (draws_B hh k it a n2 its.toArray) he ⟨hit, p⟩ hlt n1 hef fun y h' tk hy ho st' hT hsz hk => ?_
    have eyu : y = u := by
      have z : its[i]? = some y := by simpa using hy
      rw [hu] at z
      exact (Option.some.inj z).symm
    subst eyu
    refine ⟨_, rfl, wpAny_letOwnedTupleGo_enum (s := { s with heap := h', toks := tk + 1 }) ho fun h'' he' sb => ?_⟩
    have hT2 : h''.get? s.heap.objs.size = some { cls := .type "tuple", data := .seq #[.int ((i : Nat) : Int) tk, y] } := (sb.2 _ (Nat.ne_of_gt hel)).trans hT
    have new : ObjOk X.prog X.w (upd H s.heap.objs.size (.tup [.int (i : Nat), x])) h'' s.heap.objs.size (.tup [.int (i : Nat), x]) :=
      ⟨show 2 ≤ sizeLine by decide, [.int i tk, y], .cons ⟨tk, rfl⟩ (.cons ru .nil), _, hT2, rfl, _, rfl⟩
    have I1 : Inv X pins σ (upd H s.heap.objs.size (.tup [.int (i : Nat), x])) { s with heap := h'', toks := tk + 1 } :=
      I.turnedNew (t' := tk + 1) (ch := [e, it]) (fun b ob hb q => by
        have b1 : b ≠ e := fun z => hb (by simp [z])
        have b2 : b ≠ it := fun z => hb (by simp [z])
        exact (sb.2 b b1).trans (hk b ob b1 b2 q)) hf (Nat.le_refl _) new
    refine ⟨.ref s.heap.objs.size, _, I1, rfl, ⟨_, x, rfl, I.hok.fresh (Nat.le_refl _), rfl, fun ys hy => by rw [Inv.sqB_inj I hy hq]; exact hx⟩, ⟨⟨y, ?_⟩, ?_, n1, n2, n3⟩, fun b hb => ?_⟩
    · have e1 : ((i + 1 : Nat) : Int) = ((i : Nat) : Int) + 1 := by omega
      rw [e1]
      exact he'
    · exact iterB_at k st'.1 fun o q => (sb.2 it (Ne.symm n1)).trans q
    · have hb' : b < s.heap.objs.size := by
        rcases List.mem_cons.mp hb with z | z
        · rw [z]; exact hel
        · rw [List.mem_singleton.mp z]; exact hil
      rw [upd_ne (Nat.ne_of_lt hb')]
      exact (hf b hb).1
  done := by
    intro X hP hw hK hc i pins s σ H E I hf st hg
    subst hP hw hK
    obtain ⟨⟨old, he⟩, hit, n1, n2, n3⟩ := st
    obtain ⟨xs, hq, hx⟩ := hg
    obtain ⟨its, rv, p, hal⟩ := Inv.sqB I hq
    obtain ⟨f0, f1, f2, f3, f4, f5⟩ := hf it (by simp)
    have hl : i = its.toArray.size := by rw [List.size_toArray, ← rv.length]; exact hx.symm
    have hh : X.A.in1.handled = none := I.ok.hd hc
    subst hl
    exact wpAny_pyNext_enum_endD (draws_B hh k it a n2 its.toArray) he ⟨hit, p⟩ fun h' eb => ⟨rfl, I.turned (t' := s.toks) (fun b o hb q => eb b o hb q) f0 f1 f3 f4 f5⟩
  self := fun A i s Q E st h => by
    obtain ⟨⟨_, he⟩, _⟩ := st
    exact wpAny_pyIter_enum he h

set_option maxHeartbeats 2000000 in
theorem meets_enum1 {v : Value} {o : Obj} {H : Heap → Prop} (B : Begins v o H) :
    Meets (Builtin.«enumerate.__new__» ⟨[.type "enumerate", v], []⟩) (fun _ R s => H s.heap ∧
      R (.ok (.ret (.ref (s.heap.push o).objs.size))) { s with heap := (s.heap.push o).push { cls := .type "enumerate", data := .fields #[.none, .bool false, .ref s.heap.objs.size, rawInt 0, .none, .none] } }) :=
  .of_wp fun prog w A R s h => by
    obtain ⟨hp, g, d, tk, os⟩ := s
    obtain ⟨h1, h⟩ := h
    have hsub := sub_enumerate
    have q1 : ∀ {A' : Around} {E : Value → Shared → Prop} {Q : Value → Shared → Prop}, Q (.ref hp.objs.size) ⟨hp.push o, g, d, tk, os⟩ → wpAny (model prog w) A' (pyIter v) Q E ⟨hp, g, d, tk, os⟩ := fun q => B.iter prog w _ _ ⟨hp, g, d, tk, os⟩ _ h1 q
    wp_walk using q1
    refine wpAny_stack_any fun st => wpAny_pure ?_
    split
    · rename_i c _ _ _ _ _
      cases (c == Value.type "enumerate") <;> (wp_walk using q1; exact ⟨_, rfl, h⟩)
    · wp_walk using q1
      exact ⟨_, rfl, h⟩
theorem call_enumB {prog : Program} {w : World} {A : Around} {E : Value → Shared → Prop} {s : Shared} {k : Bool} {a : Addr} {its : Array Value} {Q : Value → Shared → Prop} (p : IsB k s.heap a its)
    (h : ∀ h', IsEnum h' (s.heap.objs.size + 1) s.heap.objs.size 0 .none → IterB k h' s.heap.objs.size a 0 → (∀ b o, s.heap.get? b = some o → h'.get? b = some o) → Q (.ref (s.heap.objs.size + 1)) { s with heap := h' }) :
    wpAny (model prog w) A (call (.type "enumerate") [.ref a]) Q E s := by
  refine callType_new F.called_enumerate (by decide) (F.typeCall_enumerate_1 _) (F.newCall_enumerate_1 _) (fun obj => F.args_object_init_2 obj _) F.entry_enumerate_new (meets_enum1 (begins_B k a its)) ⟨p, ?_⟩
  have hz : (s.heap.push (oB k a)).objs.size = s.heap.objs.size + 1 := Heap.size_push ..
  show _ ∧ _
  rw [hz]
  have he : IsEnum ((s.heap.push (oB k a)).push { cls := .type "enumerate", data := .fields #[.none, .bool false, .ref s.heap.objs.size, rawInt 0, .none, .none] }) (s.heap.objs.size + 1) s.heap.objs.size 0 .none := by
    have z := Heap.get?_push_size (s.heap.push (oB k a)) (o := { cls := .type "enumerate", data := .fields #[.none, .bool false, .ref s.heap.objs.size, rawInt 0, .none, .none] }) rfl
    rw [hz] at z
    exact z
  exact ⟨⟨_, he, rfl⟩, h _ he (iterB_new k (Heap.get?_push_of_some _ (Heap.get?_push_size _ (begins_B k a its).free))) fun b o x => Heap.get?_push_of_some _ (Heap.get?_push_of_some _ x)⟩
def iEnumB (K : PySem.W.Frag) (ta : TA) : TI := fun σ H R => ta σ H fun vs H1 => ∃ k a xs, vs = [.ref a] ∧ SqB K k H1 a xs ∧ R (ItE K k a) H1
theorem pi_enumB {X : Cx} {e : Expr} {ta : TA} {p pos tpos : Pos} {elts : List Expr} {kk : Nat} (hg : Gl X "enumerate") (hm : X.mg "enumerate" = none) (ha : PA X [e] ta) (hs : starEach [e] X.env = [(false, eval e X.env)]) :
    PI X (.Tuple elts kk tpos) (.Call (.Name "enumerate" p) [e] [] pos) (iEnumB X.K ta) := by
  refine ⟨fun pins s σ H R I h => ?_⟩
  refine Call_ (ld_blt I hg hm boot_enumerate (PyProof.Rows.callWith_type1 (thn (ha.run pos pins s σ H _ I h) fun us s1 ⟨vs, H1, I1, r1, q1⟩ => ?_) hs rfl))
  obtain ⟨k, a, xs, ex, hq, q⟩ := q1
  subst ex
  obtain ⟨u, rfl, ru⟩ := r1.one
  cases ru
  obtain ⟨its, rv, p', hal⟩ := Inv.sqB I1 hq
  refine call_enumB p' fun h' he hit hk => wpAny_pyIter_enum he ?_
  have I2 : Inv X pins σ H1 { s1 with heap := h' } := I1.kept (t' := s1.toks) hk
  refine ⟨s1.heap.objs.size + 1, [s1.heap.objs.size + 1, s1.heap.objs.size], _, _, H1, rfl, I2, turn_enumB k a (s1.heap.objs.size + 1) s1.heap.objs.size, ⟨⟨.none, he⟩, hit, Nat.succ_ne_self _, Nat.ne_of_lt hal, ?_⟩, fun b hb => ?_, q⟩
  · have z : a < s1.heap.objs.size + 1 := Nat.lt_succ_of_lt hal
    exact Nat.ne_of_gt z
  · have hle : s1.heap.objs.size ≤ b := by
      rcases List.mem_cons.mp hb with z | z
      · rw [z]; exact Nat.le_succ _
      · rw [List.mem_singleton.mp z]; exact Nat.le_refl _
    exact I1.fpOk hle (I1.hok.fresh hle)
end RT

set_option Elab.async false
set_option linter.all false
set_option maxRecDepth 100000
set_option maxHeartbeats 1000000
/-! CoreL: zip; the sources' readings. -/
namespace RT
open PySem PySem.Spec PyProof.Rows L2

/-! ### zip -/
def ItZ (K : PySem.W.Frag) (k1 k2 : Bool) (a b : Addr) : It :=
  ⟨fun i H => ∃ (xs ys : List V) (x y : V), SqB K k1 H a xs ∧ SqB K k2 H b ys ∧ xs[i]? = some x ∧ ys[i]? = some y,
    fun i H v H' => ∃ T x y, v = .ref T ∧ H T = none ∧ H' = upd H T (.tup [x, y]) ∧ (∀ xs, SqB K k1 H a xs → xs[i]? = some x) ∧ ∀ ys, SqB K k2 H b ys → ys[i]? = some y,
    fun i H => ∃ xs ys : List V, SqB K k1 H a xs ∧ SqB K k2 H b ys ∧ i = min xs.length ys.length⟩
theorem turn_zipB {P : Program} {w : World} {K : PySem.W.Frag} {elts : List Expr} {kk : Nat} {tpos : Pos} (k1 k2 : Bool) {a b z TI TO i1 i2 : Addr} (S : ZipSep2 z TI TO i1 i2 [i1, a] [i2, b]) :
    Turn P w K (.Tuple elts kk tpos) (ItZ K k1 k2 a b) [z, TI, TO, i1, i2] z (fun i h => IsZip h z TI TO .none ∧ IsTupOf2 h TI (.ref i1) (.ref i2) ∧ (∃ x y, IsTupOf2 h TO x y) ∧ IterB k1 h i1 a i ∧ IterB k2 h i2 b i ∧ a ≠ i1 ∧ b ≠ i2) where
  mem := List.mem_cons_self ..
  obj := fun i h st c hc => by
    obtain ⟨hz, hTI, ⟨x, y, hTO⟩, h1, h2, _⟩ := st
    have e' : c = z ∨ c = TI ∨ c = TO ∨ c = i1 ∨ c = i2 := by simpa using hc
    rcases e' with rfl | rfl | rfl | rfl | rfl
    · exact ⟨_, hz, fun v q => nomatch q⟩
    · exact ⟨_, hTI, fun v q => nomatch q⟩
    · exact ⟨_, hTO, fun v q => nomatch q⟩
    · exact iterB_obj k1 h1
    · exact iterB_obj k2 h2
  keep := fun i h h' st t => by
    obtain ⟨hz, hTI, ⟨x, y, hTO⟩, h1, h2, n1, n2⟩ := st
    exact ⟨t z (by simp) _ hz, t TI (by simp) _ hTI, ⟨x, y, t TO (by simp) _ hTO⟩, iterB_at k1 h1 fun o q => t i1 (by simp) o q, iterB_at k2 h2 fun o q => t i2 (by simp) o q, n1, n2⟩
  item := by
    intro X hP hw hK hc i pins s σ H E I hf st hg
    subst hP hw hK
    obtain ⟨hz, hTI, ⟨x0, y0, hTO⟩, h1, h2, n1, n2⟩ := st
    obtain ⟨xs, ys, x, y, hqx, hqy, hx, hy⟩ := hg
    obtain ⟨its, rv, p, _⟩ := Inv.sqB I hqx
    obtain ⟨its2, rv2, p2, _⟩ := Inv.sqB I hqy
    obtain ⟨u, hu, ru⟩ := rv.get hx
    obtain ⟨u2, hu2, ru2⟩ := rv2.get hy
    have hlt1 : i < its.toArray.size := by rw [List.size_toArray, ← rv.length]; exact (List.getElem?_eq_some_iff.mp hx).1
    have hlt2 : i < its2.toArray.size := by rw [List.size_toArray, ← rv2.length]; exact (List.getElem?_eq_some_iff.mp hy).1
    have hzl : z < s.heap.objs.size := Heap.lt_size hz
    have hh : X.A.in1.handled = none := I.ok.hd hc
    refine wpAny_pyNext_zipD2_item S (draws_B hh k1 i1 a n1 its.toArray) (draws_B hh k2 i2 b n2 its2.toArray) hz hTI hTO ⟨h1, p⟩ ⟨h2, p2⟩ hlt1 hlt2 fun x1 x2 h' tk q1 q2 z' TO' h1' h2' hT hsz hk => ?_
    have ex1 : x1 = u := by
      have w : its[i]? = some x1 := by simpa using q1
      rw [hu] at w; exact (Option.some.inj w).symm
    have ex2 : x2 = u2 := by
      have w : its2[i]? = some x2 := by simpa using q2
      rw [hu2] at w; exact (Option.some.inj w).symm
    subst ex1 ex2
    refine ⟨_, rfl, wpAny_letOwnedTupleGo_zip (s := { s with heap := h', toks := tk }) z' fun h'' z'' sb => ?_⟩
    have hT2 : h''.get? s.heap.objs.size = some { cls := .type "tuple", data := .seq #[x1, x2] } := (sb.2 _ (Nat.ne_of_gt hzl)).trans hT
    have new : ObjOk X.prog X.w (upd H s.heap.objs.size (.tup [x, y])) h'' s.heap.objs.size (.tup [x, y]) :=
      ⟨show 2 ≤ sizeLine by decide, [x1, x2], .cons ru (.cons ru2 .nil), _, hT2, rfl, _, rfl⟩
    have kp : ∀ c o, c ∉ [z, TI, TO, i1, i2] → s.heap.get? c = some o → h''.get? c = some o := fun c o hb q => by
      have b1 : c ≠ z := fun w => hb (by simp [w])
      have b2 : c ≠ TO := fun w => hb (by simp [w])
      have b3 : c ≠ i1 := fun w => hb (by simp [w])
      have b4 : c ≠ i2 := fun w => hb (by simp [w])
      exact (sb.2 c b1).trans (hk c o b1 b2 b3 b4 q)
    have I1 : Inv X pins σ (upd H s.heap.objs.size (.tup [x, y])) { s with heap := h'', toks := tk } := I.turnedNew (t' := tk) (ch := [z, TI, TO, i1, i2]) kp hf (Nat.le_refl _) new
    refine ⟨.ref s.heap.objs.size, _, I1, rfl, ⟨_, x, y, rfl, I.hok.fresh (Nat.le_refl _), rfl, fun l hl => by rw [Inv.sqB_inj I hl hqx]; exact hx, fun l hl => by rw [Inv.sqB_inj I hl hqy]; exact hy⟩, ⟨z'', ?_, ⟨x1, x2, ?_⟩, ?_, ?_, n1, n2⟩, fun c hcm => ?_⟩
    · exact (sb.2 _ S.TIz).trans (hk _ _ S.TIz S.TITO S.TIi1 S.TIi2 hTI)
    · have : TO ≠ z := fun w => by
        rw [w] at hTO
        have w3 : Value.type "zip" = Value.type "tuple" := congrArg Obj.cls (Option.some.inj (hz.symm.trans hTO))
        exact absurd (Value.type.inj w3) (by decide)
      exact (sb.2 _ this).trans TO'
    · have : i1 ≠ z := fun w => S.zf1 (w ▸ S.mem1)
      exact iterB_at k1 h1'.1 fun o q => (sb.2 _ this).trans q
    · have : i2 ≠ z := fun w => S.zf2 (w ▸ S.mem2)
      exact iterB_at k2 h2'.1 fun o q => (sb.2 _ this).trans q
    · have hlt : c < s.heap.objs.size := by
        have e' : c = z ∨ c = TI ∨ c = TO ∨ c = i1 ∨ c = i2 := by simpa using hcm
        rcases e' with rfl | rfl | rfl | rfl | rfl
        · exact hzl
        · exact Heap.lt_size hTI
        · exact Heap.lt_size hTO
        · obtain ⟨_, e1, _⟩ := iterB_obj k1 h1; exact Heap.lt_size e1
        · obtain ⟨_, e2, _⟩ := iterB_obj k2 h2; exact Heap.lt_size e2
      rw [upd_ne (Nat.ne_of_lt hlt)]
      exact (hf c hcm).1
  done := by
    intro X hP hw hK hc i pins s σ H E I hf st hg
    subst hP hw hK
    obtain ⟨hz, hTI, ⟨x0, y0, hTO⟩, h1, h2, n1, n2⟩ := st
    obtain ⟨xs, ys, hqx, hqy, hend⟩ := hg
    obtain ⟨its, rv, p, _⟩ := Inv.sqB I hqx
    obtain ⟨its2, rv2, p2, _⟩ := Inv.sqB I hqy
    have l1 : xs.length = its.toArray.size := by rw [List.size_toArray]; exact rv.length
    have l2 : ys.length = its2.toArray.size := by rw [List.size_toArray]; exact rv2.length
    have hh : X.A.in1.handled = none := I.ok.hd hc
    refine wpAny_pyNext_zipD2_end S (draws_B hh k1 i1 a n1 its.toArray) (draws_B hh k2 i2 b n2 its2.toArray) hz hTI hTO ⟨h1, p⟩ ⟨h2, p2⟩ (by omega) (by omega) (by omega) fun h' tk hk => ⟨rfl, ?_⟩
    refine I.turnedL (t' := tk) (ch := [z, TI, TO, i1, i2]) (fun c o hb q => ?_) hf
    exact hk c o (fun w => hb (by simp [w])) (fun w => hb (by simp [w])) (fun w => hb (by simp [w])) (fun w => hb (by simp [w])) q
  self := fun A i s Q E st h => wpAny_pyIter_zip st.1 h
def iZipB (K : PySem.W.Frag) (ta : TA) : TI := fun σ H R => ta σ H fun vs H1 => ∃ k1 k2 a b xs ys, vs = [.ref a, .ref b] ∧ SqB K k1 H1 a xs ∧ SqB K k2 H1 b ys ∧ R (ItZ K k1 k2 a b) H1
theorem pi_zipB {X : Cx} {e e2 : Expr} {ta : TA} {p pos tpos : Pos} {elts : List Expr} {kk : Nat} (hg : Gl X "zip") (hm : X.mg "zip" = none) (ha : PA X [e, e2] ta)
    (hs : starEach [e, e2] X.env = (false, eval e X.env) :: starEach [e2] X.env) (hpl : (backTo pos (starEach [e2] X.env)).any (·.1) = false) :
    PI X (.Tuple elts kk tpos) (.Call (.Name "zip" p) [e, e2] [] pos) (iZipB X.K ta) := by
  refine ⟨fun pins s σ H R I h => ?_⟩
  refine Call_ (ld_blt I hg hm PyProof.Rows.boot_zip (PyProof.Rows.callWith_type1 (thn (ha.run pos pins s σ H _ I h) fun us s1 ⟨vs, H1, I1, r1, q1⟩ => ?_) hs hpl))
  obtain ⟨k1, k2, a, b, xs, ys, ex, hqx, hqy, q⟩ := q1
  subst ex
  obtain ⟨u1, u2, rfl, ru1, ru2⟩ := r1.two
  cases ru1
  cases ru2
  obtain ⟨its, rv, p1, la⟩ := Inv.sqB I1 hqx
  obtain ⟨its2, rv2, p2, lb⟩ := Inv.sqB I1 hqy
  refine zip_begins2 (begins_B k1 a its.toArray) (begins_B k2 b its2.toArray) p1 p2 fun h' hz hTI hTO h1 h2 hsz hk => wpAny_pyIter_zip hz ?_
  have I2 : Inv X pins σ H1 { s1 with heap := h' } := I1.kept (t' := s1.toks) hk
  have S := zip_sep2 (N := s1.heap.objs.size) (fp1 := [a]) (fp2 := [b]) (fun c hc => by rw [List.mem_singleton.mp hc]; exact la) (fun c hc => by rw [List.mem_singleton.mp hc]; exact lb)
  refine ⟨_, _, _, _, H1, rfl, I2, turn_zipB k1 k2 S, ⟨hz, hTI, ⟨_, _, hTO⟩, iterB_new k1 h1, iterB_new k2 h2, Nat.ne_of_lt la, Nat.ne_of_lt (Nat.lt_succ_of_lt lb)⟩, fun c hcm => ?_, q⟩
  have e' : c = s1.heap.objs.size + 4 ∨ c = s1.heap.objs.size + 2 ∨ c = s1.heap.objs.size + 3 ∨ c = s1.heap.objs.size ∨ c = s1.heap.objs.size + 1 := by simpa using hcm
  have hle : s1.heap.objs.size ≤ c := by
    rcases e' with w | w | w | w | w <;> rw [w]
    · exact Nat.le_add_right _ _
    · exact Nat.le_add_right _ _
    · exact Nat.le_add_right _ _
    · exact Nat.le_refl _
    · exact Nat.le_add_right _ _
  exact I1.fpOk hle (I1.hok.fresh hle)

/-! ### a list, a tuple, a text -/
def ItS (K : PySem.W.Frag) (k : Bool) (a : Addr) : It := if k = true then Itl K a else Itt K a
def iSeq (K : PySem.W.Frag) (tl : TE) : TI := fun σ H R => tl σ H fun x H1 => (∃ k a xs, x = .ref a ∧ SqB K k H1 a xs ∧ R (ItS K k a) H1) ∨ ∃ z, x = .str z ∧ R (Its z) H1
theorem pi_seq {X : Cx} {tg e : Expr} {te : TE} (he : PE X e te) : PI X tg e (iSeq X.K te) := by
  refine ⟨fun pins s σ H R I h => ?_⟩
  refine thn (he.run pins s σ H _ I h) fun v s1 ⟨x, H1, I1, r1, q1⟩ => ?_
  rcases q1 with ⟨k, a, xs, rfl, hq, q⟩ | ⟨z, rfl, q⟩
  · cases r1
    obtain ⟨its, rv, p, _⟩ := Inv.sqB I1 hq
    cases k with
    | true => exact wpAny_pyIter_list p (pi_one (tk := s1.toks) I1 _ (turn_list a _) ⟨_, Heap.get?_push_size _ rfl, rfl, rfl⟩ q)
    | false => exact wpAny_pyIter_tuple p (pi_one (tk := s1.toks) I1 _ (turn_tuple a _) ⟨_, Heap.get?_push_size _ rfl, rfl, rfl⟩ q)
  · obtain ⟨t, rfl⟩ := r1
    cases hz : z.cps.all (· < 128)
    · exact wpAny_pyIter_wide hz (pi_one (tk := s1.toks) I1 _ (turn_str _ z t "str_iterator" (.inr rfl)) ⟨_, Heap.get?_push_size _ rfl, rfl, rfl⟩ q)
    · exact wpAny_pyIter_ascii hz (pi_one (tk := s1.toks) I1 _ (turn_str _ z t "str_ascii_iterator" (.inl rfl)) ⟨_, Heap.get?_push_size _ rfl, rfl, rfl⟩ q)

/-! ### readings -/
/-- what was locked stays -/
structure LkSame (σ0 : L2.St) (e0 : Nv) (σ : L2.St) (e : Nv) : Prop where
  lk : ∀ (l : Nat) (d : D), e0[l]? = some (some (Fl.lk, d)) → e[l]? = some (some (Fl.lk, d)) ∧ σ[l]? = σ0[l]?
  io : ∀ (l : Nat) (d : D), e0[l]? = some (some (Fl.io, d)) → (∃ d', e[l]? = some (some (Fl.io, d'))) ∧ σ[l]? = σ0[l]?
/-- the same of the kinds alone -/
structure LkE (e e' : Nv) : Prop where
  lk : ∀ (l : Nat) (d : D), e[l]? = some (some (Fl.lk, d)) → e'[l]? = some (some (Fl.lk, d))
  io : ∀ (l : Nat) (d : D), e[l]? = some (some (Fl.io, d)) → ∃ d', e'[l]? = some (some (Fl.io, d'))
theorem LkE.refl {e : Nv} : LkE e e := ⟨fun _ _ h => h, fun _ d h => ⟨d, h⟩⟩
theorem LkE.trans {e1 e2 e3 : Nv} (a : LkE e1 e2) (b : LkE e2 e3) : LkE e1 e3 := ⟨fun l d h => b.lk l d (a.lk l d h), fun l d h => let ⟨d1, h1⟩ := a.io l d h; b.io l d1 h1⟩
theorem LkE.same {e e' : Nv} {σ : L2.St} (h : LkE e e') : LkSame σ e σ e' := ⟨fun l d hl => ⟨h.lk l d hl, rfl⟩, fun l d hl => ⟨h.io l d hl, rfl⟩⟩
/-- a slot that is neither -/
theorem LkE.put {e : Nv} {i : Nat} {o : Slot} (h : ∀ d, e[i]? ≠ some (some (Fl.lk, d))) (h' : (∀ d, e[i]? ≠ some (some (Fl.io, d))) ∨ ∃ d, o = some (Fl.io, d)) : LkE e (e.set i o) := by
  refine ⟨fun l d hl => ?_, fun l d hl => ?_⟩
  · have : i ≠ l := by
      rintro rfl
      exact h d hl
    rw [List.getElem?_set_ne this]
    exact hl
  · by_cases q : i = l
    · subst q
      rcases h' with h' | ⟨d', rfl⟩
      · exact absurd hl (h' d)
      · exact ⟨d', List.getElem?_set_self (List.getElem?_eq_some_iff.mp hl).1⟩
    · exact ⟨d, by rw [List.getElem?_set_ne q]; exact hl⟩
theorem LkE.setAt {e : Nv} {i : Nat} {fl : Fl} {d : D} {o : Slot} (hi : e[i]? = some (some (fl, d))) (h1 : fl ≠ .lk) (h2 : fl ≠ .io ∨ ∃ d', o = some (Fl.io, d')) : LkE e (e.set i o) :=
  LkE.put (fun d' z => by rw [hi] at z; cases z; exact h1 rfl) (h2.imp (fun h2 d' z => by rw [hi] at z; cases z; exact h2 rfl) id)
def WkD (C : Ct) (F0 : Hp) (σ0 : L2.St) (e0 : Nv) (J : It) (its : List D) : Prop := ∀ G Rs F H σ e i, Sub F0 F → Rel C G Rs F H σ e → LkSame σ0 e0 σ e →
  (∀ d, its[i]? = some d → J.go i H ∧ ∀ x H', J.yld i H x H' → ∃ F', Sub F F' ∧ Rel C G Rs F' H' σ e ∧ Rep C F' x d) ∧ (i = its.length → J.stop i H)
def LkIn (e : Nv) (ls : List Nat) : Prop := ∀ l ∈ ls, ∃ d, e[l]? = some (some (Fl.lk, d))
def vI (C : Ct) : VR (List D × List Nat) It := fun _ _ σ F _ e J p => WkD C F σ e J p.1
abbrev tI (C : Ct) (W : WX) (m : Nv → R (List D × List Nat)) : TI := tG C W (vI C) m
/-- a list, a tuple that stays -/
def HeldS (C : Ct) (F0 : Hp) (σ0 : L2.St) (e0 : Nv) (v : V) (ds : List D) : Prop := ∃ k a, v = .ref a ∧ ∀ G Rs F H σ e, Sub F0 F → Rel C G Rs F H σ e → LkSame σ0 e0 σ e → ∃ xs, SqB C.K k H a xs ∧ RepL C F xs ds
section
variable {C : Ct} {W : WX} {X : Cx} {G : Hp} {Rs : Rv} {F F' H H' : Hp} {σ : L2.St} {e : Nv} {v : V}
theorem LkSame.refl : LkSame σ e σ e := LkE.refl.same
theorem LkSame.trans {σ1 σ2 : L2.St} {e1 e2 : Nv} (a : LkSame σ e σ1 e1) (b : LkSame σ1 e1 σ2 e2) : LkSame σ e σ2 e2 := ⟨fun l d h => ⟨(b.lk l d (a.lk l d h).1).1, (b.lk l d (a.lk l d h).1).2.trans (a.lk l d h).2⟩,
  fun l d h => let ⟨⟨d1, h1⟩, h2⟩ := a.io l d h; ⟨(b.io l d1 h1).1, (b.io l d1 h1).2.trans h2⟩⟩
theorem held_rep {d : D} {ds : List D} (h : Rep C F v d) (q : seqD d = some ds) : HeldS C F σ e v ds := by
  cases d <;> simp [seqD] at q
  · subst q
    cases h with
    | tup h r => exact ⟨false, _, rfl, fun G Rs F1 H1 σ1 e1 s r1 _ => ⟨_, (s.trans r1.fh).sqT h, r.up s⟩⟩
  · subst q
    cases h with
    | lst h r => exact ⟨true, _, rfl, fun G Rs F1 H1 σ1 e1 s r1 _ => ⟨_, SqL.of (r1.fh _ _ (s _ _ h)), r.up s⟩⟩
theorem Rel.flag {i : Nat} {f0 f1 : Fl} {d : D} (r : Rel C G Rs F H σ e) (h : e[i]? = some (some (f0, d))) (h0 : f0 = .ow ∨ f0 = .lk) (h1 : f1 = .ow ∨ f1 = .lk) : Rel C G Rs F H σ (e.set i (some (f1, d))) := by
  obtain ⟨hil, _⟩ := List.getElem?_eq_some_iff.mp h
  have n0 : f0 ≠ .sh := by rcases h0 with rfl | rfl <;> decide
  have n1 : f1 ≠ .sh := by rcases h1 with rfl | rfl <;> decide
  have m1 : f0 ≠ .io := by rcases h0 with rfl | rfl <;> decide
  have bk : ∀ {j : Nat} {f : Fl} {d' : D}, (e.set i (some (f1, d)))[j]? = some (some (f, d')) → f ≠ .sh → ∃ f', f' ≠ .sh ∧ e[j]? = some (some (f', d')) := fun {j f d'} hj hf => by
    by_cases q : i = j
    · subst q; rw [List.getElem?_set_self hil] at hj; cases hj; exact ⟨f0, n0, h⟩
    · rw [List.getElem?_set_ne q] at hj; exact ⟨f, hf, hj⟩
  refine ⟨by rw [List.length_set]; exact r.len, r.fh, r.gh, r.rs, fun j d' hj => ?_, fun j f d' hj hf => ?_, fun j k fi fj di dj p hjk a b c d' e1 e2 => ?_⟩
  · by_cases q : i = j
    · subst q; rw [List.getElem?_set_self hil] at hj; cases hj; exact absurd rfl n1
    · rw [List.getElem?_set_ne q] at hj; exact r.sh j d' hj
  · by_cases q : i = j
    · subst q; rw [List.getElem?_set_self hil] at hj; cases hj
      obtain ⟨p, a, b, c, g, k⟩ := r.ow i f0 d h n0
      refine ⟨p, a, b, c, g, ?_⟩
      cases k with
      | l k => exact .l k
      | obj z _ _ _ _ _ _ _ _ => exact absurd z m1
    · rw [List.getElem?_set_ne q] at hj; exact r.ow j f d' hj hf
  · obtain ⟨f2, g2, a2⟩ := bk a b
    obtain ⟨f3, g3, a3⟩ := bk c d'
    exact r.inj j k f2 f3 di dj p hjk a2 g2 a3 g3 e1 e2
theorem held_of {vl : VL} {ds : List D} (r : Rel C G Rs F H σ e) (h : VRep C G Rs F H σ e v vl) (q : walkD seqD e vl = some ds) : ∃ F', Sub F F' ∧ Rel C G Rs F' H σ (lockV e vl).1 ∧ HeldS C F' σ (lockV e vl).1 v ds := by
  cases vl with
  | fz d => exact ⟨F, Sub.refl, r, held_rep h q⟩
  | fr d =>
    obtain ⟨F1, s1, r1, h1⟩ := VRep.settle r h
    exact ⟨F1, s1, r1, held_rep (show Rep C F1 v d from h1) q⟩
  | pk i =>
    have h : σ[i]? = some (some v) := h
    simp only [walkD] at q
    split at q
    · cases q
    · rename_i fl d hf hi
      have key : ∀ {e' : Nv}, e'[i]? = some (some (Fl.lk, d)) → fl ≠ .sh → HeldS C F σ e' v ds := fun {e'} hi' hs => by
        obtain ⟨p, h1, _, _, _, c⟩ := r.ow i fl d hi hs
        rw [h] at h1; cases h1
        refine ⟨true, p, rfl, fun G1 Rs1 F1 H1 σ1 e1 s r1 lk => ?_⟩
        obtain ⟨l1, l2⟩ := lk.lk i d hi'
        rw [h] at l2
        obtain ⟨p', h2, _, _, _, c1⟩ := r1.ow i .lk d l1 (by decide)
        rw [l2] at h2; cases h2
        cases c1 with
        | l c1 =>
          cases c1 with
          | lst a b =>
            simp [seqD] at q; subst q
            exact ⟨_, SqL.of a, b⟩
          | dct a b => simp [seqD] at q
        | obj z _ _ _ _ _ _ _ _ => cases z
      cases fl with
      | sh =>
        obtain ⟨u, h1, h2⟩ := r.sh i d hi
        rw [h] at h1; cases h1
        have el : lockV e (.pk i) = (e, []) := by simp only [lockV, hi]
        rw [el]
        exact ⟨F, Sub.refl, r, held_rep h2 q⟩
      | ow =>
        have el : lockV e (.pk i) = (e.set i (some (.lk, d)), [i]) := by simp only [lockV, hi]
        rw [el]
        obtain ⟨hil, _⟩ := List.getElem?_eq_some_iff.mp hi
        exact ⟨F, Sub.refl, r.flag hi (.inl rfl) (.inr rfl), key (List.getElem?_set_self hil) (by decide)⟩
      | lk =>
        have el : lockV e (.pk i) = (e, []) := by simp only [lockV, hi]
        rw [el]
        exact ⟨F, Sub.refl, r, key hi (by decide)⟩
      | io => exact absurd rfl hf
    · cases q
theorem unlock_ok : ∀ {ls : List Nat} {e e' : Nv}, Rel C G Rs F H σ e → unlock e ls = some e' → Rel C G Rs F H σ e'
  | [], e, e', r, h => by cases h; exact r
  | i :: ls, e, e', r, h => by
    simp only [unlock] at h
    split at h
    · rename_i d hd
      exact unlock_ok (r.flag hd (.inr rfl) (.inl rfl)) h
    · cases h
end
end RT

set_option Elab.async false
set_option linter.all false
set_option maxRecDepth 100000
set_option maxHeartbeats 1000000
/-! CoreEz: enumerate over zip. -/
namespace RT
open PySem PySem.Spec PyProof.Rows L2
/-- a zip, whatever tuple it handed out -/
abbrev IsZipF (h : Heap) (z TI TO : Addr) (f0 : Value) (f : Bool) : Prop :=
  h.get? z = some { cls := .type "zip", dict := none, data := .fields #[f0, .bool f, .bool false, .ref TI, .ref TO], slots := #[] }
/-- the state of a zip in an enumerate -/
def ZSt (h : Heap) (z TI TO : Addr) : Prop := ∃ (f0 : Value) (f : Bool), IsZipF h z TI TO f0 f ∧ (f0 = .none ∨ ∃ T : Addr, f0 = rawInt T)
section
variable {prog : Program} {w : World} {A : Around} {E : Value → Shared → Prop} {s : Shared} {z TI TO i1 i2 : Addr} {fp1 fp2 : List Addr} {n1 n2 i : Nat} {P1 P2 : Nat → Value → Prop} {St1 St2 : Nat → Heap → Prop} {a1 a2 : Value}
/-- whether the tuple is free: either way -/
theorem zfree {f0 : Value} {f : Bool} {Q : Bool → Shared → Prop} (hz : IsZipF s.heap z TI TO f0 f) (h0 : f0 = .none ∨ ∃ T : Addr, f0 = rawInt T)
    (ht : Q true s) (hf : ∀ h', IsZipF h' z TI TO f0 true → Heap.SameBut z s.heap h' → Q false { s with heap := h' }) : wpAny (model prog w) A (Builtin.SmallTypes.ownedTupleIsFree (.ref z)) Q E s := by
  unfold Builtin.SmallTypes.ownedTupleIsFree
  rcases h0 with rfl | ⟨T, rfl⟩
  · exact wpAny_bind (wpAny_field hz rfl (x := .none) rfl (wpAny_pure ht))
  · refine wpAny_bind (wpAny_field hz rfl (x := rawInt T) rfl ?_)
    show wpAny _ _ (loadIfAlive ((T : Int).toNat) >>= _) _ _ _
    rw [Int.toNat_natCast]
    cases hT : s.heap.get? T with
    | none =>
      have key : ∀ {Q : Option Obj → Shared → Prop}, Q none s → wpAny (model prog w) A (loadIfAlive T) Q E s := fun {Q} h => by
        have h' : Q (s.heap.get? T) s := by rw [hT]; exact h
        exact fun _ _ _ => h'
      exact wpAny_bind (key (wpAny_pure ht))
    | some oT =>
      refine wpAny_bind (PySem.W.kdx_alive hT ?_)
      simp only [Option.isNone_some, Bool.false_eq_true, if_false]
      refine wpAny_bind (wpAny_field hz rfl (x := .bool f) rfl ?_)
      cases f with
      | true =>
        rw [if_neg (show ¬ ((Value.bool true != Value.bool true) = true) from Bool.false_ne_true)]
        exact wpAny_pure (hf s.heap hz (Heap.SameBut.refl _ _))
      | false =>
        rw [if_pos (show (Value.bool false != Value.bool true) = true from rfl)]
        exact wpAny_bind (wpAny_setField_rec hz (by simp) fun h₁ hz₁ hs₁ => wpAny_pure (hf h₁ hz₁ hs₁))
theorem zipF_item {f0 : Value} {f : Bool} {Q : Value → Shared → Prop} (S : ZipSep2 z TI TO i1 i2 fp1 fp2) (D1 : Draws prog w A i1 fp1 n1 P1 St1) (D2 : Draws prog w A i2 fp2 n2 P2 St2)
    (hz : IsZipF s.heap z TI TO f0 f) (h0 : f0 = .none ∨ ∃ T : Addr, f0 = rawInt T) (hTI : IsTupOf2 s.heap TI (.ref i1) (.ref i2)) (hTO : IsTupOf2 s.heap TO a1 a2) (st1 : St1 i s.heap) (st2 : St2 i s.heap) (hlt1 : i < n1) (hlt2 : i < n2)
    (hQ : ∀ x1 x2 h' tk, P1 i x1 → P2 i x2 → ZSt h' z TI TO → (∃ y1 y2, IsTupOf2 h' TO y1 y2) → St1 (i + 1) h' → St2 (i + 1) h' → IsTupOf2 h' s.heap.objs.size x1 x2 → h'.objs.size = s.heap.objs.size + 1 →
      (∀ c o, c ≠ z → c ≠ TO → c ≠ i1 → c ≠ i2 → s.heap.get? c = some o → h'.get? c = some o) → Q (.ref s.heap.objs.size) { s with heap := h', toks := tk }) :
    wpAny (model prog w) A (Builtin.«zip.__next__» ⟨[.ref z], []⟩) (fun fin s' => ∃ v, fin = .done (.ret v) ∧ Q v s') E s := by
  obtain ⟨hp, g, d, tk0, os⟩ := s
  show wpAny _ _ (field (.ref z) 2 >>= _) _ _ _
  refine wpAny_bind (wpAny_field hz rfl (x := .bool false) rfl ?_)
  show wpAny _ _ (field (.ref z) 3 >>= _) _ _ _
  refine wpAny_bind (wpAny_field hz rfl (x := .ref TI) rfl ?_)
  refine wpAny_bind (wpAny_seqItems hTI rfl ?_)
  show wpAny _ _ (Builtin.SmallTypes.ownedTupleIsFree (.ref z) >>= _) _ _ _
  refine wpAny_bind (zfree hz h0 ?_ fun h₁ hz₁ hs₁ => ?_)
  · simp only [if_true]
    refine wpAny_bind (wpAny_rule ?_)
    refine wpAny_bind (wpAny_field hz rfl (x := .ref TO) rfl ?_)
    refine wpAny_bind (wpAny_setField_rec hz (by simp) fun g0 hz0 hs0 => ?_)
    replace hz0 : IsZipF g0 z TI TO .ellipsis f := hz0
    replace hs0 : Heap.SameBut z hp g0 := hs0
    refine wpAny_bind ?_
    simp only [List.zipIdx_cons, List.zipIdx_nil, List.forIn_cons, List.forIn_nil]
    refine wpAny_bind (wpAny_bind (wpAny_onRaise ?_))
    show wpAny _ _ (Builtin.SmallTypes.nextOf (.ref i1) >>= _) _ _ ⟨g0, g, d, tk0, os⟩
    refine wpAny_bind (D1.item i _ _ _ hlt1 (D1.over st1 hs0 S.zf1) fun x1 p1 tk1 hx1 sn1 hp1 => wpAny_pure ?_)
    replace hp1 : Heap.SameBut i1 g0 p1 := hp1
    have hU1 : IsTupOf2 p1 TO a1 a2 := hp1.extBut _ _ S.Ti1 (hs0.extBut _ _ S.TOz hTO)
    refine wpAny_bind (wpAny_seqItems (s := ⟨p1, g, d, tk1, os⟩) hU1 rfl ?_)
    refine wpAny_bind (updateSeq_IsTupOf2 (s := ⟨p1, g, d, tk1, os⟩) hU1 fun g1 hT1 hs1 => ?_)
    replace hT1 : IsTupOf2 g1 TO x1 a2 := hT1
    replace hs1 : Heap.SameBut TO p1 g1 := hs1
    refine wpAny_bind (wpAny_letGo (wpAny_pure ?_))
    refine wpAny_bind (wpAny_bind (wpAny_onRaise ?_))
    show wpAny _ _ (Builtin.SmallTypes.nextOf (.ref i2) >>= _) _ _ ⟨g1, g, d, tk1, os⟩
    refine wpAny_bind (D2.item i _ _ _ hlt2 (D2.over (D2.over (D2.over st2 hs0 S.zf2) hp1 S.sep1_2) hs1 S.Tf2) fun x2 p2 tk2 hx2 sn2 hp2 => wpAny_pure ?_)
    replace hp2 : Heap.SameBut i2 g1 p2 := hp2
    have hU2 : IsTupOf2 p2 TO x1 a2 := hp2.extBut _ _ S.Ti2 hT1
    refine wpAny_bind (wpAny_seqItems (s := ⟨p2, g, d, tk2, os⟩) hU2 rfl ?_)
    refine wpAny_bind (updateSeq_IsTupOf2 (s := ⟨p2, g, d, tk2, os⟩) hU2 fun g2 hT2 hs2 => ?_)
    replace hT2 : IsTupOf2 g2 TO x1 x2 := hT2
    replace hs2 : Heap.SameBut TO p2 g2 := hs2
    refine wpAny_bind (wpAny_letGo (wpAny_pure (wpAny_pure ?_)))
    refine wpAny_bind (wpAny_seqItems (s := ⟨g2, g, d, tk2, os⟩) hT2 rfl ?_)
    refine wpAny_bind (wpAny_newTuple ?_)
    have hsz : g2.objs.size = hp.objs.size := by rw [hs2.1, hp2.1, hs1.1, hp1.1, hs0.1]
    have hzz : IsZipF g2 z TI TO .ellipsis f := (hs2.extBut _ _ S.TOz.symm (hp2.extBut _ _ S.zi2 (hs1.extBut _ _ S.TOz.symm (hp1.extBut _ _ S.zi1 hz0))))
    have hkk : ∀ c o, c ≠ z → c ≠ TO → c ≠ i1 → c ≠ i2 → hp.get? c = some o → g2.get? c = some o := fun c o cz cT c1 c2 e =>
      (hs2.extBut _ _ cT (hp2.extBut _ _ c2 (hs1.extBut _ _ cT (hp1.extBut _ _ c1 (hs0.extBut _ _ cz e)))))
    have hj1 : St1 (i + 1) g2 := (D1.over (D1.over (D1.over sn1 hs1 S.Tf1) hp2 S.sep2_1) hs2 S.Tf1)
    have hj2 : St2 (i + 1) g2 := (D2.over sn2 hs2 S.Tf2)
    have hzlt : z < g2.objs.size := Heap.lt_size hzz
    show wpAny _ _ (Builtin.SmallTypes.ownedTupleHandOut (.ref z) (.ref g2.objs.size) >>= _) _ _ ⟨g2.push { cls := .type "tuple", data := .seq #[x1, x2] }, g, d, tk2, os⟩
    refine wpAny_bind ?_
    unfold Builtin.SmallTypes.ownedTupleHandOut
    have hz₆ : IsZipF (g2.push { cls := .type "tuple", data := .seq #[x1, x2] }) z TI TO .ellipsis f := Heap.get?_push_of_some _ hzz
    refine wpAny_bind (wpAny_setField_rec hz₆ (by simp) fun h₇ hz₇ hs₇ => ?_)
    replace hz₇ : IsZipF h₇ z TI TO (rawInt g2.objs.size) f := hz₇
    refine wpAny_setField_rec hz₇ (by simp) fun h₈ hz₈ hs₈ => ?_
    replace hz₈ : IsZipF h₈ z TI TO (rawInt g2.objs.size) false := hz₈
    replace hs₇ : Heap.SameBut z (g2.push { cls := .type "tuple", data := .seq #[x1, x2] }) h₇ := hs₇
    replace hs₈ : Heap.SameBut z h₇ h₈ := hs₈
    have up : ∀ c o, c ≠ z → g2.get? c = some o → h₈.get? c = some o := fun c o c1 e => hs₈.extBut _ _ c1 (hs₇.extBut _ _ c1 (Heap.get?_push_of_some _ e))
    have hT₈ : IsTupOf2 h₈ g2.objs.size x1 x2 := hs₈.extBut _ _ (Nat.ne_of_gt hzlt) (hs₇.extBut _ _ (Nat.ne_of_gt hzlt) (Heap.get?_push_size _ rfl))
    have hz8 : h₈.objs.size = g2.objs.size + 1 := by rw [hs₈.1, hs₇.1, Heap.size_push]
    rw [hsz] at hz₈ hT₈ hz8
    refine wpAny_pure ⟨_, rfl, ?_⟩
    show Q (.ref g2.objs.size) ⟨h₈, g, d, tk2, os⟩
    rw [hsz]
    exact hQ x1 x2 h₈ tk2 hx1 hx2 ⟨_, _, hz₈, .inr ⟨_, rfl⟩⟩ ⟨_, _, up _ _ S.TOz hT2⟩ (D1.frame _ _ _ hj1 fun b hb o e => up b o (fun q => S.zf1 (q ▸ hb)) e) (D2.frame _ _ _ hj2 fun b hb o e => up b o (fun q => S.zf2 (q ▸ hb)) e) hT₈ hz8 fun c o cz cT c1 c2 e => up c o cz (hkk c o cz cT c1 c2 e)
  · simp only [Bool.false_eq_true, if_false]
    replace hs₁ : Heap.SameBut z hp h₁ := hs₁
    refine wpAny_bind ?_
    rw [← Array.forIn_toList]
    simp only [List.forIn_cons, List.forIn_nil]
    refine wpAny_bind (wpAny_bind (wpAny_holding ?_))
    show wpAny _ _ (Builtin.SmallTypes.nextOf (.ref i1) >>= _) _ _ _
    refine wpAny_bind (D1.item i _ _ _ hlt1 (D1.over st1 hs₁ S.zf1) fun x1 p1 tk1 hx1 sn1 hp1 => wpAny_pure ?_)
    replace hp1 : Heap.SameBut i1 h₁ p1 := hp1
    refine wpAny_pure ?_
    refine wpAny_bind (wpAny_bind (wpAny_holding ?_))
    show wpAny _ _ (Builtin.SmallTypes.nextOf (.ref i2) >>= _) _ _ _
    refine wpAny_bind (D2.item i _ _ _ hlt2 (D2.over (D2.over st2 hs₁ S.zf2) hp1 S.sep1_2) fun x2 p2 tk2 hx2 sn2 hp2 => wpAny_pure ?_)
    replace hp2 : Heap.SameBut i2 p1 p2 := hp2
    refine wpAny_pure (wpAny_pure ?_)
    show wpAny _ _ (newTuple [x1, x2] >>= _) _ _ _
    refine wpAny_bind (wpAny_newTuple ?_)
    have hsz : p2.objs.size = hp.objs.size := by rw [hp2.1, hp1.1, hs₁.1]
    have hz₃ : IsZipF p2 z TI TO f0 true := hp2.extBut _ _ S.zi2 (hp1.extBut _ _ S.zi1 hz₁)
    have hk : ∀ c o, c ≠ z → c ≠ i1 → c ≠ i2 → hp.get? c = some o → p2.get? c = some o := fun c o c1 c2 c3 e => hp2.extBut _ _ c3 (hp1.extBut _ _ c2 (hs₁.extBut _ _ c1 e))
    have hj1 : St1 (i + 1) p2 := D1.over sn1 hp2 S.sep2_1
    refine wpAny_pure ⟨_, rfl, ?_⟩
    show Q (.ref p2.objs.size) _
    have hP : IsTupOf2 (p2.push { cls := .type "tuple", data := .seq #[x1, x2] }) p2.objs.size x1 x2 := Heap.get?_push_size _ rfl
    have hz4 : (p2.push { cls := .type "tuple", data := .seq #[x1, x2] }).objs.size = p2.objs.size + 1 := Heap.size_push ..
    rw [hsz] at hP hz4 ⊢
    have up : ∀ c o, p2.get? c = some o → (p2.push { cls := .type "tuple", data := .seq #[x1, x2] }).get? c = some o := fun c o e => Heap.get?_push_of_some _ e
    exact hQ x1 x2 _ tk2 hx1 hx2 ⟨_, _, up _ _ hz₃, h0⟩ ⟨_, _, up _ _ (hk _ _ S.TOz S.Ti1 S.Ti2 hTO)⟩ (D1.frame _ _ _ hj1 fun b _ o e => up b o e) (D2.frame _ _ _ sn2 fun b _ o e => up b o e) hP hz4 fun c o cz _ c1 c2 e => up c o (hk c o cz c1 c2 e)
theorem zipF_end {f0 : Value} {f : Bool} {Q : Fin → Shared → Prop} (S : ZipSep2 z TI TO i1 i2 fp1 fp2) (D1 : Draws prog w A i1 fp1 n1 P1 St1) (D2 : Draws prog w A i2 fp2 n2 P2 St2)
    (hz : IsZipF s.heap z TI TO f0 f) (h0 : f0 = .none ∨ ∃ T : Addr, f0 = rawInt T) (hTI : IsTupOf2 s.heap TI (.ref i1) (.ref i2)) (hTO : IsTupOf2 s.heap TO a1 a2) (st1 : St1 i s.heap) (st2 : St2 i s.heap) (hle1 : i ≤ n1) (hle2 : i ≤ n2) (hend : i = n1 ∨ i = n2)
    (hE : ∀ h' tk e, (∀ c o, c ≠ z → c ≠ TO → c ≠ i1 → c ≠ i2 → s.heap.get? c = some o → h'.get? c = some o) → (∃ o, h'.get? e = some o ∧ o.cls = .type "StopIteration") → E (.ref e) { s with heap := h', toks := tk }) :
    wpAny (model prog w) A (Builtin.«zip.__next__» ⟨[.ref z], []⟩) Q E s := by
  obtain ⟨hp, g, d, tk0, os⟩ := s
  show wpAny _ _ (field (.ref z) 2 >>= _) _ _ _
  refine wpAny_bind (wpAny_field hz rfl (x := .bool false) rfl ?_)
  show wpAny _ _ (field (.ref z) 3 >>= _) _ _ _
  refine wpAny_bind (wpAny_field hz rfl (x := .ref TI) rfl ?_)
  refine wpAny_bind (wpAny_seqItems hTI rfl ?_)
  show wpAny _ _ (Builtin.SmallTypes.ownedTupleIsFree (.ref z) >>= _) _ _ _
  refine wpAny_bind (zfree hz h0 ?_ fun h₁ hz₁ hs₁ => ?_)
  · simp only [if_true]
    refine wpAny_bind (wpAny_rule ?_)
    refine wpAny_bind (wpAny_field hz rfl (x := .ref TO) rfl ?_)
    refine wpAny_bind (wpAny_setField_rec hz (by simp) fun g0 hz0 hs0 => ?_)
    replace hz0 : IsZipF g0 z TI TO .ellipsis f := hz0
    replace hs0 : Heap.SameBut z hp g0 := hs0
    refine wpAny_bind ?_
    simp only [List.zipIdx_cons, List.zipIdx_nil, List.forIn_cons, List.forIn_nil]
    refine wpAny_bind (wpAny_bind (wpAny_onRaise ?_))
    show wpAny _ _ (Builtin.SmallTypes.nextOf (.ref i1) >>= _) _ _ ⟨g0, g, d, tk0, os⟩
    by_cases hlt1 : i < n1
    · refine wpAny_bind (D1.item i _ _ _ hlt1 (D1.over st1 hs0 S.zf1) fun x1 p1 tk1 hx1 sn1 hp1 => wpAny_pure ?_)
      replace hp1 : Heap.SameBut i1 g0 p1 := hp1
      have hU1 : IsTupOf2 p1 TO a1 a2 := hp1.extBut _ _ S.Ti1 (hs0.extBut _ _ S.TOz hTO)
      refine wpAny_bind (wpAny_seqItems (s := ⟨p1, g, d, tk1, os⟩) hU1 rfl ?_)
      refine wpAny_bind (updateSeq_IsTupOf2 (s := ⟨p1, g, d, tk1, os⟩) hU1 fun g1 hT1 hs1 => ?_)
      replace hT1 : IsTupOf2 g1 TO x1 a2 := hT1
      replace hs1 : Heap.SameBut TO p1 g1 := hs1
      refine wpAny_bind (wpAny_letGo (wpAny_pure ?_))
      have hi2 : i = n2 := by omega
      refine wpAny_bind (wpAny_bind (wpAny_onRaise ?_))
      show wpAny _ _ (Builtin.SmallTypes.nextOf (.ref i2) >>= _) _ _ ⟨g1, g, d, tk1, os⟩
      refine wpAny_bind (D2.done ⟨g1, g, d, tk1, os⟩ _ _ (by rw [← hi2]; exact (D2.over (D2.over (D2.over st2 hs0 S.zf2) hp1 S.sep1_2) hs1 S.Tf2)) fun q e hq he => ?_)
      replace hq : Heap.ExtBut i2 g1 q := hq
      obtain ⟨oe, hoe, hce⟩ := he
      replace hoe : q.get? e = some oe := hoe
      have hzq : IsZipF q z TI TO .ellipsis f := hq _ _ S.zi2 (hs1.extBut _ _ S.TOz.symm (hp1.extBut _ _ S.zi1 hz0))
      have hez : e ≠ z := fun x => by subst x; rw [hzq] at hoe; cases hoe; simp at hce
      refine wpAny_setField_rec (s := ⟨q, g, d, tk1, os⟩) hzq (by simp) fun q' _ hq' => ?_
      replace hq' : Heap.SameBut z q q' := hq'
      exact hE q' tk1 e (fun c o cz cT c1 c2 x => hq'.extBut _ _ cz (hq _ _ c2 (hs1.extBut _ _ cT (hp1.extBut _ _ c1 (hs0.extBut _ _ cz x))))) ⟨oe, hq'.extBut _ _ hez hoe, hce⟩
    · have hi1 : i = n1 := by omega
      refine wpAny_bind (D1.done ⟨g0, g, d, tk0, os⟩ _ _ (by rw [← hi1]; exact (D1.over st1 hs0 S.zf1)) fun q e hq he => ?_)
      replace hq : Heap.ExtBut i1 g0 q := hq
      obtain ⟨oe, hoe, hce⟩ := he
      replace hoe : q.get? e = some oe := hoe
      have hzq : IsZipF q z TI TO .ellipsis f := hq _ _ S.zi1 hz0
      have hez : e ≠ z := fun x => by subst x; rw [hzq] at hoe; cases hoe; simp at hce
      refine wpAny_setField_rec (s := ⟨q, g, d, tk0, os⟩) hzq (by simp) fun q' _ hq' => ?_
      replace hq' : Heap.SameBut z q q' := hq'
      exact hE q' tk0 e (fun c o cz cT c1 c2 x => hq'.extBut _ _ cz (hq _ _ c1 (hs0.extBut _ _ cz x))) ⟨oe, hq'.extBut _ _ hez hoe, hce⟩
  · simp only [Bool.false_eq_true, if_false]
    replace hs₁ : Heap.SameBut z hp h₁ := hs₁
    refine wpAny_bind ?_
    rw [← Array.forIn_toList]
    simp only [List.forIn_cons, List.forIn_nil]
    refine wpAny_bind (wpAny_bind (wpAny_holding ?_))
    show wpAny _ _ (Builtin.SmallTypes.nextOf (.ref i1) >>= _) _ _ _
    by_cases hlt1 : i < n1
    · refine wpAny_bind (D1.item i _ _ _ hlt1 (D1.over st1 hs₁ S.zf1) fun x1 p1 tk1 hx1 sn1 hp1 => wpAny_pure ?_)
      replace hp1 : Heap.SameBut i1 h₁ p1 := hp1
      refine wpAny_pure ?_
      have hi2 : i = n2 := by omega
      refine wpAny_bind (wpAny_bind (wpAny_holding ?_))
      show wpAny _ _ (Builtin.SmallTypes.nextOf (.ref i2) >>= _) _ _ _
      refine wpAny_bind (D2.done ⟨p1, g, d, tk1, os⟩ _ _ (by rw [← hi2]; exact D2.over (D2.over st2 hs₁ S.zf2) hp1 S.sep1_2) fun q e hq he => ?_)
      replace hq : Heap.ExtBut i2 p1 q := hq
      exact hE q tk1 e (fun c o cz cT c1 c2 x => hq _ _ c2 (hp1.extBut _ _ c1 (hs₁.extBut _ _ cz x))) he
    · have hi1 : i = n1 := by omega
      refine wpAny_bind (D1.done ⟨h₁, g, d, tk0, os⟩ _ _ (by rw [← hi1]; exact D1.over st1 hs₁ S.zf1) fun q e hq he => ?_)
      replace hq : Heap.ExtBut i1 h₁ q := hq
      exact hE q tk0 e (fun c o cz cT c1 c2 x => hq _ _ c1 (hs₁.extBut _ _ cz x)) he
/-- enumerate over what a draw of its own brings -/
theorem enumG_item {e it : Addr} {c : Int} {old : Value} {R : Value → Heap → Prop} {Q : Value → Shared → Prop}
    (he : IsEnum s.heap e it c old)
    (D : ∀ (Q : Value → Shared → Prop), (∀ x h' tk, R x h' → h'.get? e = s.heap.get? e → Q x { s with heap := h', toks := tk }) → wpAny (model prog w) A (Builtin.SmallTypes.nextOf (.ref it)) Q E s)
    (hQ : ∀ x h1 h' tk, R x h1 → IsEnumOut h' e it (c + 1) x h1.objs.size → h'.get? h1.objs.size = some { cls := .type "tuple", data := .seq #[.int c tk, x] } → h'.objs.size = h1.objs.size + 1 →
      (∀ b o, b ≠ e → h1.get? b = some o → h'.get? b = some o) → Q (.ref h1.objs.size) { s with heap := h', toks := tk + 1 }) :
    wpAny (model prog w) A (Builtin.«enumerate.__next__» ⟨[.ref e], []⟩) (fun fin s' => ∃ v, fin = .done (.ret v) ∧ Q v s') E s := by
  obtain ⟨hp, g, d, tk₀, os⟩ := s
  show wpAny _ _ (field (.ref e) 2 >>= _) _ _ _
  refine wpAny_bind (wpAny_field he rfl (x := .ref it) rfl ?_)
  refine wpAny_bind (D _ fun x h₁ tk hR hk₁ => ?_)
  have he₁ : IsEnum h₁ e it c old := hk₁.trans he
  show wpAny _ _ (field (.ref e) 3 >>= _) _ _ ⟨h₁, g, d, tk, os⟩
  refine wpAny_bind (wpAny_field he₁ rfl (x := rawInt c) rfl ?_)
  show wpAny _ _ (field (.ref e) 4 >>= _) _ _ ⟨h₁, g, d, tk, os⟩
  refine wpAny_bind (wpAny_field he₁ rfl (x := .none) rfl ?_)
  show wpAny _ _ (mkInt c >>= _) _ _ ⟨h₁, g, d, tk, os⟩
  refine wpAny_bind (wpAny_mkInt ?_)
  show wpAny _ _ (setField (.ref e) 3 (rawInt (c + 1)) >>= _) _ _ ⟨h₁, g, d, tk + 1, os⟩
  refine wpAny_bind (wpAny_setField_rec he₁ (by simp) fun h₂ he₂ hs₂ => ?_)
  replace hs₂ : Heap.SameBut e h₁ h₂ := hs₂
  replace he₂ : IsEnum h₂ e it (c + 1) old := he₂
  show wpAny _ _ (setField (.ref e) 4 .none >>= _) _ _ ⟨h₂, g, d, tk + 1, os⟩
  refine wpAny_bind (wpAny_setField_rec he₂ (by simp) fun h₃ he₃ hs₃ => ?_)
  replace hs₃ : Heap.SameBut e h₂ h₃ := hs₃
  replace he₃ : IsEnum h₃ e it (c + 1) old := he₃
  show wpAny _ _ (newTuple [.int c tk, x] >>= _) _ _ ⟨h₃, g, d, tk + 1, os⟩
  refine wpAny_bind (wpAny_newTuple ?_)
  have he₄ : IsEnum (h₃.push { cls := .type "tuple", data := .seq #[.int c tk, x] }) e it (c + 1) old := Heap.get?_push_of_some _ he₃
  generalize hh₄ : h₃.push { cls := .type "tuple", data := .seq #[.int c tk, x] } = h₄ at he₄
  have hsz : h₃.objs.size = h₁.objs.size := by rw [hs₃.1, hs₂.1]
  have hel : e < h₁.objs.size := Heap.lt_size he₁
  have ht₄ : h₄.get? h₁.objs.size = some { cls := .type "tuple", data := .seq #[.int c tk, x] } := by rw [← hh₄, ← hsz]; exact Heap.get?_push_size _ rfl
  have hz₄ : h₄.objs.size = h₁.objs.size + 1 := by rw [← hh₄, Heap.size_push, hsz]
  have hk₄ : ∀ b o, b ≠ e → h₁.get? b = some o → h₄.get? b = some o := fun b o hbe hb => by
    rw [← hh₄]; exact Heap.get?_push_of_some _ (hs₃.extBut b o hbe (hs₂.extBut b o hbe hb))
  show wpAny _ _ (Builtin.SmallTypes.ownedTupleIsFree (.ref e) >>= _) _ _ ⟨h₄, g, d, tk + 1, os⟩
  rw [hsz]
  clear hh₄ he₃ hs₃ he₂ hs₂ hsz h₃ h₂
  refine wpAny_bind ?_
  unfold Builtin.SmallTypes.ownedTupleIsFree
  refine wpAny_bind (wpAny_field he₄ rfl (x := .none) rfl (wpAny_pure ?_))
  simp only [if_true]
  refine wpAny_bind (wpAny_rule ?_)
  refine wpAny_bind (wpAny_field he₄ rfl (x := old) rfl ?_)
  refine wpAny_bind (wpAny_setField_rec he₄ (by simp) fun h₅ he₅ hs₅ => ?_)
  replace hs₅ : Heap.SameBut e h₄ h₅ := hs₅
  replace he₅ : IsEnum h₅ e it (c + 1) x := he₅
  show wpAny _ _ (Builtin.SmallTypes.ownedTupleHandOut (.ref e) (.ref h₁.objs.size) >>= _) _ _ ⟨h₅, g, d, tk + 1, os⟩
  refine wpAny_bind ?_
  unfold Builtin.SmallTypes.ownedTupleHandOut
  refine wpAny_bind (wpAny_setField_rec he₅ (by simp) fun h₆ he₆ hs₆ => ?_)
  replace hs₆ : Heap.SameBut e h₅ h₆ := hs₆
  replace he₆ : IsEnumOut h₆ e it (c + 1) x h₁.objs.size := he₆
  refine wpAny_setField_rec he₆ (by simp) fun h₇ he₇ hs₇ => ?_
  replace hs₇ : Heap.SameBut e h₆ h₇ := hs₇
  replace he₇ : IsEnumOut h₇ e it (c + 1) x h₁.objs.size := he₇
  refine wpAny_bind (wpAny_letGo (wpAny_pure ⟨_, rfl, hQ x h₁ h₇ tk hR he₇ ?_ ?_ ?_⟩))
  · exact hs₇.extBut _ _ (Nat.ne_of_gt hel) (hs₆.extBut _ _ (Nat.ne_of_gt hel) (hs₅.extBut _ _ (Nat.ne_of_gt hel) ht₄))
  · rw [hs₇.1, hs₆.1, hs₅.1, hz₄]
  · exact fun b o hbe hb => hs₇.extBut b o hbe (hs₆.extBut b o hbe (hs₅.extBut b o hbe (hk₄ b o hbe hb)))
theorem nextOf_zipF_item {f0 : Value} {f : Bool} {Q : Value → Shared → Prop} (S : ZipSep2 z TI TO i1 i2 fp1 fp2) (D1 : Draws prog w A.in1 i1 fp1 n1 P1 St1) (D2 : Draws prog w A.in1 i2 fp2 n2 P2 St2)
    (hz : IsZipF s.heap z TI TO f0 f) (h0 : f0 = .none ∨ ∃ T : Addr, f0 = rawInt T) (hTI : IsTupOf2 s.heap TI (.ref i1) (.ref i2)) (hTO : IsTupOf2 s.heap TO a1 a2) (st1 : St1 i s.heap) (st2 : St2 i s.heap) (hlt1 : i < n1) (hlt2 : i < n2)
    (hQ : ∀ x1 x2 h' tk, P1 i x1 → P2 i x2 → ZSt h' z TI TO → (∃ y1 y2, IsTupOf2 h' TO y1 y2) → St1 (i + 1) h' → St2 (i + 1) h' → IsTupOf2 h' s.heap.objs.size x1 x2 → h'.objs.size = s.heap.objs.size + 1 →
      (∀ c o, c ≠ z → c ≠ TO → c ≠ i1 → c ≠ i2 → s.heap.get? c = some o → h'.get? c = some o) → Q (.ref s.heap.objs.size) { s with heap := h', toks := tk }) :
    wpAny (model prog w) A (Builtin.SmallTypes.nextOf (.ref z)) Q E s := by
  have hT : s.TypeIs (.ref z) "zip" := ⟨_, hz, rfl⟩
  unfold Builtin.SmallTypes.nextOf
  exact wpAny_bind (wpAny_callSpecial?_slot (name := Str.ofString "__next__") hT F.slot_zip_next
    (wpAny_call_entry F.slot_zip_next hT F.entry_zip_next
      (zipF_item S D1 D2 hz h0 hTI hTO st1 st2 hlt1 hlt2 fun x1 x2 h' tk y1 y2 b1 b2 d1 d2 b5 b6 b7 => wpAny_pure (hQ x1 x2 h' tk y1 y2 b1 b2 d1 d2 b5 b6 b7)) (F.args_zip_next_1 _)))
theorem nextOf_zipF_end {f0 : Value} {f : Bool} {Q : Value → Shared → Prop} (S : ZipSep2 z TI TO i1 i2 fp1 fp2) (D1 : Draws prog w A.in1 i1 fp1 n1 P1 St1) (D2 : Draws prog w A.in1 i2 fp2 n2 P2 St2)
    (hz : IsZipF s.heap z TI TO f0 f) (h0 : f0 = .none ∨ ∃ T : Addr, f0 = rawInt T) (hTI : IsTupOf2 s.heap TI (.ref i1) (.ref i2)) (hTO : IsTupOf2 s.heap TO a1 a2) (st1 : St1 i s.heap) (st2 : St2 i s.heap) (hle1 : i ≤ n1) (hle2 : i ≤ n2) (hend : i = n1 ∨ i = n2)
    (hE : ∀ h' tk e, (∀ c o, c ≠ z → c ≠ TO → c ≠ i1 → c ≠ i2 → s.heap.get? c = some o → h'.get? c = some o) → (∃ o, h'.get? e = some o ∧ o.cls = .type "StopIteration") → E (.ref e) { s with heap := h', toks := tk }) :
    wpAny (model prog w) A (Builtin.SmallTypes.nextOf (.ref z)) Q E s := by
  have hT : s.TypeIs (.ref z) "zip" := ⟨_, hz, rfl⟩
  unfold Builtin.SmallTypes.nextOf
  exact wpAny_bind (wpAny_callSpecial?_slot (name := Str.ofString "__next__") hT F.slot_zip_next
    (wpAny_call_entry F.slot_zip_next hT F.entry_zip_next (zipF_end S D1 D2 hz h0 hTI hTO st1 st2 hle1 hle2 hend hE) (F.args_zip_next_1 _)))
theorem pyNext_ez_item {e : Addr} {c : Int} {old : Value} {f0 : Value} {f : Bool} {Q : Option Value → Shared → Prop} (he : IsEnum s.heap e z c old) (ne : e ∉ [z, TI, TO, i1, i2]) (S : ZipSep2 z TI TO i1 i2 fp1 fp2) (D1 : Draws prog w A.in1.in1 i1 fp1 n1 P1 St1) (D2 : Draws prog w A.in1.in1 i2 fp2 n2 P2 St2)
    (hz : IsZipF s.heap z TI TO f0 f) (h0 : f0 = .none ∨ ∃ T : Addr, f0 = rawInt T) (hTI : IsTupOf2 s.heap TI (.ref i1) (.ref i2)) (hTO : IsTupOf2 s.heap TO a1 a2) (st1 : St1 i s.heap) (st2 : St2 i s.heap) (hlt1 : i < n1) (hlt2 : i < n2)
    (hQ : ∀ x1 x2 h1 h' tk, P1 i x1 → P2 i x2 → ZSt h1 z TI TO → (∃ y1 y2, IsTupOf2 h1 TO y1 y2) → St1 (i + 1) h1 → St2 (i + 1) h1 → IsTupOf2 h1 s.heap.objs.size x1 x2 → h1.objs.size = s.heap.objs.size + 1 →
      (∀ c o, c ≠ z → c ≠ TO → c ≠ i1 → c ≠ i2 → s.heap.get? c = some o → h1.get? c = some o) →
      IsEnumOut h' e z (c + 1) (.ref s.heap.objs.size) (s.heap.objs.size + 1) → h'.get? (s.heap.objs.size + 1) = some { cls := .type "tuple", data := .seq #[.int c tk, .ref s.heap.objs.size] } → h'.objs.size = s.heap.objs.size + 2 →
      (∀ b o, b ≠ e → h1.get? b = some o → h'.get? b = some o) → Q (some (.ref (s.heap.objs.size + 1))) { s with heap := h', toks := tk + 1 }) :
    wpAny (model prog w) A (pyNext (.ref e)) Q E s := by
  have hT : s.TypeIs (.ref e) "enumerate" := ⟨_, he, rfl⟩
  have n1 : e ≠ z := fun q => ne (by simp [q])
  have n2 : e ≠ TO := fun q => ne (by simp [q])
  have n3 : e ≠ i1 := fun q => ne (by simp [q])
  have n4 : e ≠ i2 := fun q => ne (by simp [q])
  unfold pyNext
  refine wpAny_bind (wpAny_attempt (wpAny_callSpecial?_slot (name := Str.ofString "__next__") hT F.slot_enumerate_next
    (wpAny_call_entry F.slot_enumerate_next hT F.entry_enumerate_next
      (enumG_item (R := fun x h1 => ∃ x1 x2, x = .ref s.heap.objs.size ∧ P1 i x1 ∧ P2 i x2 ∧ ZSt h1 z TI TO ∧ (∃ y1 y2, IsTupOf2 h1 TO y1 y2) ∧ St1 (i + 1) h1 ∧ St2 (i + 1) h1 ∧ IsTupOf2 h1 s.heap.objs.size x1 x2 ∧ h1.objs.size = s.heap.objs.size + 1 ∧
        (∀ c o, c ≠ z → c ≠ TO → c ≠ i1 → c ≠ i2 → s.heap.get? c = some o → h1.get? c = some o)) he (fun Q hq => ?_) fun x h1 h' tk hR ho ht hs hk => wpAny_pure ?_) (F.args_enumerate_next_1 _))))
  · exact nextOf_zipF_item S D1 D2 hz h0 hTI hTO st1 st2 hlt1 hlt2 fun x1 x2 h' tk y1 y2 b1 b2 d1 d2 b5 b6 b7 => hq _ _ _ ⟨x1, x2, rfl, y1, y2, b1, b2, d1, d2, b5, b6, b7⟩ ((b7 e _ n1 n2 n3 n4 he).trans he.symm)
  · obtain ⟨x1, x2, rfl, y1, y2, b1, b2, d1, d2, b5, b6, b7⟩ := hR
    rw [b6] at ho ht hs ⊢
    exact hQ x1 x2 h1 h' tk y1 y2 b1 b2 d1 d2 b5 b6 b7 ho ht hs hk
theorem pyNext_ez_end {e : Addr} {c : Int} {old : Value} {f0 : Value} {f : Bool} {Q : Option Value → Shared → Prop} (he : IsEnum s.heap e z c old) (S : ZipSep2 z TI TO i1 i2 fp1 fp2) (D1 : Draws prog w A.in1.in1 i1 fp1 n1 P1 St1) (D2 : Draws prog w A.in1.in1 i2 fp2 n2 P2 St2)
    (hz : IsZipF s.heap z TI TO f0 f) (h0 : f0 = .none ∨ ∃ T : Addr, f0 = rawInt T) (hTI : IsTupOf2 s.heap TI (.ref i1) (.ref i2)) (hTO : IsTupOf2 s.heap TO a1 a2) (st1 : St1 i s.heap) (st2 : St2 i s.heap) (hle1 : i ≤ n1) (hle2 : i ≤ n2) (hend : i = n1 ∨ i = n2)
    (hQ : ∀ h' tk, (∀ c o, c ≠ z → c ≠ TO → c ≠ i1 → c ≠ i2 → s.heap.get? c = some o → h'.get? c = some o) → Q none { s with heap := h', toks := tk }) :
    wpAny (model prog w) A (pyNext (.ref e)) Q E s := by
  have hT : s.TypeIs (.ref e) "enumerate" := ⟨_, he, rfl⟩
  unfold pyNext
  refine wpAny_bind (wpAny_attempt (wpAny_callSpecial?_slot (name := Str.ofString "__next__") hT F.slot_enumerate_next
    (wpAny_call_entry F.slot_enumerate_next hT F.entry_enumerate_next ?_ (F.args_enumerate_next_1 _))))
  show wpAny _ _ (field (.ref e) 2 >>= _) _ _ _
  refine wpAny_bind (wpAny_field he rfl (x := .ref z) rfl ?_)
  refine wpAny_bind (nextOf_zipF_end S D1 D2 hz h0 hTI hTO st1 st2 hle1 hle2 hend fun h' tk x he' hx' => ?_)
  obtain ⟨o, ho, hc⟩ := hx'
  refine wpAny_bind (wpAny_isInstance (T := "StopIteration") (b := true) ⟨o, ho, hc⟩ isSubtype_stop ?_)
  exact wpAny_pure (hQ _ _ he')
end
def ItEZ (K : PySem.W.Frag) (k1 k2 : Bool) (a b : Addr) : It :=
  ⟨fun i H => ∃ (xs ys : List V) (x y : V), SqB K k1 H a xs ∧ SqB K k2 H b ys ∧ xs[i]? = some x ∧ ys[i]? = some y,
    fun i H v H' => ∃ T1 T2 x y, v = .ref T2 ∧ H T1 = none ∧ H T2 = none ∧ T1 ≠ T2 ∧ H' = upd (upd H T1 (.tup [x, y])) T2 (.tup [.int (i : Nat), .ref T1]) ∧ (∀ xs, SqB K k1 H a xs → xs[i]? = some x) ∧ ∀ ys, SqB K k2 H b ys → ys[i]? = some y,
    fun i H => ∃ xs ys : List V, SqB K k1 H a xs ∧ SqB K k2 H b ys ∧ i = min xs.length ys.length⟩
theorem turn_ez {P : Program} {w : World} {K : PySem.W.Frag} {elts : List Expr} {kk : Nat} {tpos : Pos} (k1 k2 : Bool) {e a b z TI TO i1 i2 : Addr} (ne : e ∉ [z, TI, TO, i1, i2]) (S : ZipSep2 z TI TO i1 i2 [i1, a] [i2, b]) :
    Turn P w K (.Tuple elts kk tpos) (ItEZ K k1 k2 a b) [e, z, TI, TO, i1, i2] e (fun i h => (∃ old, IsEnum h e z ((i : Nat) : Int) old) ∧ ZSt h z TI TO ∧ IsTupOf2 h TI (.ref i1) (.ref i2) ∧ (∃ x y, IsTupOf2 h TO x y) ∧ IterB k1 h i1 a i ∧ IterB k2 h i2 b i ∧ a ≠ i1 ∧ b ≠ i2) where
  mem := List.mem_cons_self ..
  obj := fun i h st c hc => by
    obtain ⟨⟨old, he⟩, ⟨f0, f, hz, _⟩, hTI, ⟨x, y, hTO⟩, h1, h2, _⟩ := st
    have e' : c = e ∨ c = z ∨ c = TI ∨ c = TO ∨ c = i1 ∨ c = i2 := by simpa using hc
    rcases e' with rfl | rfl | rfl | rfl | rfl | rfl
    · exact ⟨_, he, fun v q => nomatch q⟩
    · exact ⟨_, hz, fun v q => nomatch q⟩
    · exact ⟨_, hTI, fun v q => nomatch q⟩
    · exact ⟨_, hTO, fun v q => nomatch q⟩
    · exact iterB_obj k1 h1
    · exact iterB_obj k2 h2
  keep := fun i h h' st t => by
    obtain ⟨⟨old, he⟩, ⟨f0, f, hz, h0⟩, hTI, ⟨x, y, hTO⟩, h1, h2, n1, n2⟩ := st
    exact ⟨⟨old, t e (by simp) _ he⟩, ⟨f0, f, t z (by simp) _ hz, h0⟩, t TI (by simp) _ hTI, ⟨x, y, t TO (by simp) _ hTO⟩, iterB_at k1 h1 fun o q => t i1 (by simp) o q, iterB_at k2 h2 fun o q => t i2 (by simp) o q, n1, n2⟩
  item := by
    intro X hP hw hK hc i pins s σ H E I hf st hg
    subst hP hw hK
    obtain ⟨⟨old, he⟩, ⟨f0, f, hz, h0⟩, hTI, ⟨x0, y0, hTO⟩, h1, h2, n1, n2⟩ := st
    obtain ⟨xs, ys, x, y, hqx, hqy, hx, hy⟩ := hg
    obtain ⟨its, rv, p, _⟩ := Inv.sqB I hqx
    obtain ⟨its2, rv2, p2, _⟩ := Inv.sqB I hqy
    obtain ⟨u, hu, ru⟩ := rv.get hx
    obtain ⟨u2, hu2, ru2⟩ := rv2.get hy
    have hlt1 : i < its.toArray.size := by rw [List.size_toArray, ← rv.length]; exact (List.getElem?_eq_some_iff.mp hx).1
    have hlt2 : i < its2.toArray.size := by rw [List.size_toArray, ← rv2.length]; exact (List.getElem?_eq_some_iff.mp hy).1
    have hel : e < s.heap.objs.size := Heap.lt_size he
    have hh : X.A.in1.in1.handled = none := I.ok.hd hc
    refine pyNext_ez_item he ne S (draws_B hh k1 i1 a n1 its.toArray) (draws_B hh k2 i2 b n2 its2.toArray) hz h0 hTI hTO ⟨h1, p⟩ ⟨h2, p2⟩ hlt1 hlt2 fun x1 x2 g1 h' tk q1 q2 z' TO' h1' h2' hT1 hsz1 hk1 ho hT2 hsz hk => ?_
    have ex1 : x1 = u := by
      have w : its[i]? = some x1 := by simpa using q1
      rw [hu] at w; exact (Option.some.inj w).symm
    have ex2 : x2 = u2 := by
      have w : its2[i]? = some x2 := by simpa using q2
      rw [hu2] at w; exact (Option.some.inj w).symm
    subst ex1 ex2
    refine ⟨_, rfl, wpAny_letOwnedTupleGo_enum (s := { s with heap := h', toks := tk + 1 }) ho fun h'' he' sb => ?_⟩
    replace sb : Heap.SameBut e h' h'' := sb
    have hk2 : ∀ b o, b ≠ e → g1.get? b = some o → h''.get? b = some o := fun b o hb q => (sb.2 b hb).trans (hk b o hb q)
    -- the zip's tuple
    have new1 : ObjOk X.prog X.w (upd H s.heap.objs.size (.tup [x, y])) g1 s.heap.objs.size (.tup [x, y]) :=
      ⟨show 2 ≤ sizeLine by decide, [x1, x2], .cons ru (.cons ru2 .nil), _, hT1, rfl, _, rfl⟩
    have hf4 : ∀ c ∈ [z, TI, TO, i1, i2], FpOk X pins H c := fun c hc => hf c (List.mem_cons_of_mem _ hc)
    have I1 : Inv X pins σ (upd H s.heap.objs.size (.tup [x, y])) { s with heap := g1, toks := tk } := I.turnedNew (t' := tk) (ch := [z, TI, TO, i1, i2]) (fun c o hb q => hk1 c o (fun w => hb (by simp [w])) (fun w => hb (by simp [w])) (fun w => hb (by simp [w])) (fun w => hb (by simp [w])) q) hf4 (Nat.le_refl _) new1
    have fe : ∀ c ∈ [e], FpOk X pins (upd H s.heap.objs.size (.tup [x, y])) c := fun c hc => by
      rw [List.mem_singleton.mp hc]
      refine ⟨?_, (hf e List.mem_cons_self).2⟩
      rw [upd_ne (Nat.ne_of_lt hel)]
      exact (hf e List.mem_cons_self).1
    have hT2' : h''.get? (s.heap.objs.size + 1) = some { cls := .type "tuple", data := .seq #[.int ((i : Nat) : Int) tk, .ref s.heap.objs.size] } := (sb.2 _ (Nat.ne_of_gt (Nat.lt_succ_of_lt hel))).trans hT2
    have new2 : ObjOk X.prog X.w (upd (upd H s.heap.objs.size (.tup [x, y])) (s.heap.objs.size + 1) (.tup [.int (i : Nat), .ref s.heap.objs.size])) h'' (s.heap.objs.size + 1) (.tup [.int (i : Nat), .ref s.heap.objs.size]) :=
      ⟨show 2 ≤ sizeLine by decide, [.int i tk, .ref s.heap.objs.size], .cons ⟨tk, rfl⟩ (.cons rfl .nil), _, hT2', rfl, _, rfl⟩
    have I2 : Inv X pins σ (upd (upd H s.heap.objs.size (.tup [x, y])) (s.heap.objs.size + 1) (.tup [.int (i : Nat), .ref s.heap.objs.size])) { s with heap := h'', toks := tk + 1 } := I1.turnedNew (t' := tk + 1) (ch := [e]) (fun c o hb q => hk2 c o (fun w => hb (by simp [w])) q) fe (by show g1.objs.size ≤ _; rw [hsz1]; exact Nat.le_refl _) new2
    have nn : s.heap.objs.size ≠ s.heap.objs.size + 1 := Nat.ne_of_lt (Nat.lt_succ_self _)
    obtain ⟨f0', f', hz', h0'⟩ := z'
    obtain ⟨y1, y2, TO'⟩ := TO'
    have nez : z ≠ e := fun q => ne (by simp [q])
    have neI : TI ≠ e := fun q => ne (by simp [q])
    have neO : TO ≠ e := fun q => ne (by simp [q])
    have ne1 : i1 ≠ e := fun q => ne (by simp [q])
    have ne2 : i2 ≠ e := fun q => ne (by simp [q])
    refine ⟨.ref (s.heap.objs.size + 1), _, I2, rfl, ⟨_, _, x, y, rfl, I.hok.fresh (Nat.le_refl _), I.hok.fresh (Nat.le_succ _), nn, rfl, fun l hl => by rw [Inv.sqB_inj I hl hqx]; exact hx, fun l hl => by rw [Inv.sqB_inj I hl hqy]; exact hy⟩,
      ⟨⟨.ref s.heap.objs.size, ?_⟩, ⟨f0', f', hk2 _ _ nez hz', h0'⟩, hk2 _ _ neI (hk1 _ _ S.TIz S.TITO S.TIi1 S.TIi2 hTI), ⟨_, _, hk2 _ _ neO TO'⟩, iterB_at k1 h1'.1 fun o q => hk2 _ _ ne1 q, iterB_at k2 h2'.1 fun o q => hk2 _ _ ne2 q, n1, n2⟩, fun c hcm => ?_⟩
    · have e1 : ((i + 1 : Nat) : Int) = ((i : Nat) : Int) + 1 := by omega
      rw [e1]
      exact he'
    · have hlt : c < s.heap.objs.size := by
        have e' : c = e ∨ c = z ∨ c = TI ∨ c = TO ∨ c = i1 ∨ c = i2 := by simpa using hcm
        rcases e' with rfl | rfl | rfl | rfl | rfl | rfl
        · exact hel
        · exact Heap.lt_size hz
        · exact Heap.lt_size hTI
        · exact Heap.lt_size hTO
        · obtain ⟨_, e1, _⟩ := iterB_obj k1 h1; exact Heap.lt_size e1
        · obtain ⟨_, e2, _⟩ := iterB_obj k2 h2; exact Heap.lt_size e2
      rw [upd_ne (Nat.ne_of_lt (Nat.lt_succ_of_lt hlt)), upd_ne (Nat.ne_of_lt hlt)]
      exact (hf c hcm).1
  done := by
    intro X hP hw hK hc i pins s σ H E I hf st hg
    subst hP hw hK
    obtain ⟨⟨old, he⟩, ⟨f0, f, hz, h0⟩, hTI, ⟨x0, y0, hTO⟩, h1, h2, n1, n2⟩ := st
    obtain ⟨xs, ys, hqx, hqy, hend⟩ := hg
    obtain ⟨its, rv, p, _⟩ := Inv.sqB I hqx
    obtain ⟨its2, rv2, p2, _⟩ := Inv.sqB I hqy
    have l1 : xs.length = its.toArray.size := by rw [List.size_toArray]; exact rv.length
    have l2 : ys.length = its2.toArray.size := by rw [List.size_toArray]; exact rv2.length
    have hh : X.A.in1.in1.handled = none := I.ok.hd hc
    refine pyNext_ez_end he S (draws_B hh k1 i1 a n1 its.toArray) (draws_B hh k2 i2 b n2 its2.toArray) hz h0 hTI hTO ⟨h1, p⟩ ⟨h2, p2⟩ (by omega) (by omega) (by omega) fun h' tk hk => ⟨rfl, ?_⟩
    refine I.turnedL (t' := tk) (ch := [e, z, TI, TO, i1, i2]) (fun c o hb q => ?_) hf
    exact hk c o (fun w => hb (by simp [w])) (fun w => hb (by simp [w])) (fun w => hb (by simp [w])) (fun w => hb (by simp [w])) q
  self := fun A i s Q E st h => by
    obtain ⟨⟨_, he⟩, _⟩ := st
    exact wpAny_pyIter_enum he h
set_option maxHeartbeats 2000000 in
theorem meets_enumZ {z TI TO : Addr} {f0 : Value} :
    Meets (Builtin.«enumerate.__new__» ⟨[.type "enumerate", .ref z], []⟩) (fun _ R s => IsZip s.heap z TI TO f0 ∧
      R (.ok (.ret (.ref s.heap.objs.size))) { s with heap := s.heap.push { cls := .type "enumerate", data := .fields #[.none, .bool false, .ref z, rawInt 0, .none, .none] } }) :=
  .of_wp fun prog w A R s h => by
    obtain ⟨hp, g, d, tk, os⟩ := s
    obtain ⟨h1, h⟩ := h
    have hsub := sub_enumerate
    have q1 : ∀ {A' : Around} {E : Value → Shared → Prop} {Q : Value → Shared → Prop}, Q (.ref z) ⟨hp, g, d, tk, os⟩ → wpAny (model prog w) A' (pyIter (.ref z)) Q E ⟨hp, g, d, tk, os⟩ := fun q => wpAny_pyIter_zip h1 q
    wp_walk using q1
    refine wpAny_stack_any fun st => wpAny_pure ?_
    split
    · rename_i c _ _ _ _ _
      cases (c == Value.type "enumerate") <;> (wp_walk using q1; exact ⟨_, rfl, h⟩)
    · wp_walk using q1
      exact ⟨_, rfl, h⟩
theorem call_enumZ {prog : Program} {w : World} {A : Around} {E : Value → Shared → Prop} {s : Shared} {z TI TO : Addr} {f0 : Value} {Q : Value → Shared → Prop} (p : IsZip s.heap z TI TO f0)
    (h : ∀ h', IsEnum h' s.heap.objs.size z 0 .none → (∀ b o, s.heap.get? b = some o → h'.get? b = some o) → Q (.ref s.heap.objs.size) { s with heap := h' }) :
    wpAny (model prog w) A (call (.type "enumerate") [.ref z]) Q E s := by
  refine callType_new F.called_enumerate (by decide) (F.typeCall_enumerate_1 _) (F.newCall_enumerate_1 _) (fun obj => F.args_object_init_2 obj _) F.entry_enumerate_new meets_enumZ ⟨p, ?_⟩
  have he : IsEnum (s.heap.push { cls := .type "enumerate", data := .fields #[.none, .bool false, .ref z, rawInt 0, .none, .none] }) s.heap.objs.size z 0 .none := Heap.get?_push_size s.heap rfl
  exact ⟨⟨_, he, rfl⟩, h _ he fun b o x => Heap.get?_push_of_some _ x⟩
def iEZ (K : PySem.W.Frag) (ta : TA) : TI := fun σ H R => ta σ H fun vs H1 => ∃ k1 k2 a b xs ys, vs = [.ref a, .ref b] ∧ SqB K k1 H1 a xs ∧ SqB K k2 H1 b ys ∧ R (ItEZ K k1 k2 a b) H1
theorem pi_ez {X : Cx} {e e2 : Expr} {ta : TA} {p p2 pos pos2 tpos : Pos} {elts : List Expr} {kk : Nat} (hg : Gl X "zip") (hm : X.mg "zip" = none) (hg2 : Gl X "enumerate") (hm2 : X.mg "enumerate" = none) (ha : PA X [e, e2] ta)
    (hs : starEach [e, e2] X.env = (false, eval e X.env) :: starEach [e2] X.env) (hpl : (backTo pos2 (starEach [e2] X.env)).any (·.1) = false) :
    PI X (.Tuple elts kk tpos) (.Call (.Name "enumerate" p) [.Call (.Name "zip" p2) [e, e2] [] pos2] [] pos) (iEZ X.K ta) := by
  refine ⟨fun pins s σ H R I h => ?_⟩
  refine Call_ (ld_blt I hg2 hm2 boot_enumerate (PyProof.Rows.callWith_type1 ?_ rfl rfl))
  show wpAny _ _ (spliced ((false, eval (.Call (.Name "zip" p2) [e, e2] [] pos2) X.env) :: backTo pos (starEach [] X.env))) _ _ s
  refine Calls.spliced_cons ?_
  refine Call_ (ld_blt I hg hm PyProof.Rows.boot_zip (PyProof.Rows.callWith_type1 (thn (ha.run pos2 pins s σ H _ I h) fun us s1 ⟨vs, H1, I1, r1, q1⟩ => ?_) hs hpl))
  obtain ⟨k1, k2, a, b, xs, ys, ex, hqx, hqy, q⟩ := q1
  subst ex
  obtain ⟨u1, u2, rfl, ru1, ru2⟩ := r1.two
  cases ru1
  cases ru2
  obtain ⟨its, rv, p1, la⟩ := Inv.sqB I1 hqx
  obtain ⟨its2, rv2, p2', lb⟩ := Inv.sqB I1 hqy
  refine zip_begins2 (begins_B k1 a its.toArray) (begins_B k2 b its2.toArray) p1 p2' fun h' hz hTI hTO h1 h2 hsz hk => ?_
  refine Calls.spliced_nil ?_
  refine call_enumZ (s := { s1 with heap := h' }) hz fun h'' he hk2 => wpAny_pyIter_enum he ?_
  replace hk2 : ∀ b o, h'.get? b = some o → h''.get? b = some o := hk2
  replace he : IsEnum h'' h'.objs.size (s1.heap.objs.size + 4) 0 .none := he
  have I2 : Inv X pins σ H1 { s1 with heap := h'' } := I1.kept (t' := s1.toks) fun b o e => hk2 _ _ (hk _ _ e)
  have S := zip_sep2 (N := s1.heap.objs.size) (fp1 := [a]) (fp2 := [b]) (fun c hc => by rw [List.mem_singleton.mp hc]; exact la) (fun c hc => by rw [List.mem_singleton.mp hc]; exact lb)
  have ne : h'.objs.size ∉ [s1.heap.objs.size + 4, s1.heap.objs.size + 2, s1.heap.objs.size + 3, s1.heap.objs.size, s1.heap.objs.size + 1] := by
    rw [hsz]
    simp
  refine ⟨_, _, _, _, H1, rfl, I2, turn_ez k1 k2 ne S, ⟨⟨.none, he⟩, ⟨.none, false, hk2 _ _ hz, .inl rfl⟩, hk2 _ _ hTI, ⟨_, _, hk2 _ _ hTO⟩, iterB_at k1 (iterB_new k1 h1) fun o x => hk2 _ _ x, iterB_at k2 (iterB_new k2 h2) fun o x => hk2 _ _ x, Nat.ne_of_lt la, Nat.ne_of_lt (Nat.lt_succ_of_lt lb)⟩, fun c hcm => ?_, q⟩
  have e' : c = h'.objs.size ∨ c = s1.heap.objs.size + 4 ∨ c = s1.heap.objs.size + 2 ∨ c = s1.heap.objs.size + 3 ∨ c = s1.heap.objs.size ∨ c = s1.heap.objs.size + 1 := by simpa using hcm
  have hle : s1.heap.objs.size ≤ c := by
    rw [hsz] at e'
    rcases e' with w | w | w | w | w | w <;> rw [w]
    · exact Nat.le_add_right _ _
    · exact Nat.le_add_right _ _
    · exact Nat.le_add_right _ _
    · exact Nat.le_add_right _ _
    · exact Nat.le_refl _
    · exact Nat.le_add_right _ _
  exact I1.fpOk hle (I1.hok.fresh hle)
end RT

set_option Elab.async false
set_option linter.all false
set_option maxRecDepth 100000
/-! CoreM: the sources. -/
namespace RT
open PySem PySem.Spec PyProof.Rows L2

theorem rngL_get : ∀ (n : Nat) (lo st : Int) (k : Nat) (d : D), (rngL lo st n)[k]? = some d → k < n ∧ d = .int (lo + (k : Nat) * st)
  | 0, lo, st, k, d, h => by simp [rngL] at h
  | n + 1, lo, st, 0, d, h => by
    simp [rngL] at h
    subst h
    exact ⟨Nat.succ_pos _, by simp⟩
  | n + 1, lo, st, k + 1, d, h => by
    simp only [rngL, List.getElem?_cons_succ] at h
    obtain ⟨h1, rfl⟩ := rngL_get n (lo + st) st k d h
    refine ⟨Nat.succ_lt_succ h1, ?_⟩
    congr 1
    have : ((k + 1 : Nat) : Int) * st = (k : Int) * st + st := by rw [Int.natCast_succ, Int.add_mul, Int.one_mul]
    omega
theorem rngL_len : ∀ (n : Nat) (lo st : Int), (rngL lo st n).length = n
  | 0, _, _ => rfl
  | n + 1, lo, st => by simp [rngL, rngL_len n]
theorem enmL_get : ∀ (xs : List D) (n k : Nat) (d : D), (enmL n xs)[k]? = some d → ∃ x, xs[k]? = some x ∧ d = .tup [.int ((n + k : Nat) : Int), x]
  | [], n, k, d, h => by simp [enmL] at h
  | x :: xs, n, 0, d, h => by
    simp [enmL] at h
    exact ⟨x, rfl, h.symm⟩
  | x :: xs, n, k + 1, d, h => by
    simp only [enmL, List.getElem?_cons_succ] at h
    obtain ⟨y, h1, h2⟩ := enmL_get xs (n + 1) k d h
    exact ⟨y, by simpa using h1, by rw [h2, show n + 1 + k = n + (k + 1) by omega]⟩
theorem enmL_len : ∀ (xs : List D) (n : Nat), (enmL n xs).length = xs.length
  | [], _ => rfl
  | x :: xs, n => by simp [enmL, enmL_len xs]
theorem zipL_get : ∀ (xs ys : List D) (k : Nat) (d : D), (zipL xs ys)[k]? = some d → ∃ x y, xs[k]? = some x ∧ ys[k]? = some y ∧ d = .tup [x, y]
  | [], ys, k, d, h => by simp [zipL] at h
  | x :: xs, [], k, d, h => by simp [zipL] at h
  | x :: xs, y :: ys, 0, d, h => by
    simp [zipL] at h
    exact ⟨x, y, rfl, rfl, h.symm⟩
  | x :: xs, y :: ys, k + 1, d, h => by
    simp only [zipL, List.getElem?_cons_succ] at h
    obtain ⟨a, b, h1, h2, h3⟩ := zipL_get xs ys k d h
    exact ⟨a, b, by simpa using h1, by simpa using h2, h3⟩
theorem zipL_len : ∀ (xs ys : List D), (zipL xs ys).length = min xs.length ys.length
  | [], ys => by simp [zipL]
  | x :: xs, [] => by simp [zipL]
  | x :: xs, y :: ys => by simp [zipL, zipL_len xs ys]
section
variable {C : Ct} {W : WX} {X : Cx} {G : Hp} {Rs : Rv} {F F' H H' : Hp} {σ : L2.St} {e : Nv} {v : V} {a b c tg : Expr} {es : List Expr} {pos p0 : Pos}
theorem PI_imp {i : Expr} {t t' : TI} (h : PI X tg i t) (k : ∀ σ H Q, t' σ H Q → t σ H Q) : PI X tg i t' := ⟨fun pins s σ H Q I q => h.run pins s σ H Q I (k σ H Q q)⟩
theorem wk_rng {F0 : Hp} {lo st : Int} {n : Nat} {J : It} (hJ : J = Itc lo st n ∨ (st = 1 ∧ J = Itr lo n)) : WkD C F0 σ e J (rngL lo st n) := fun G Rs F H σ' e' i s r lk => by
  have key : (∀ d, (rngL lo st n)[i]? = some d → i < n ∧ ∀ x H', H' = H ∧ x = .int (lo + (i : Nat) * st) → ∃ F', Sub F F' ∧ Rel C G Rs F' H' σ' e' ∧ Rep C F' x d) := fun d hd => by
    obtain ⟨h1, rfl⟩ := rngL_get _ _ _ _ _ hd
    refine ⟨h1, ?_⟩
    rintro x H' ⟨rfl, rfl⟩
    exact ⟨F, Sub.refl, r, .int _⟩
  rcases hJ with rfl | ⟨rfl, rfl⟩
  · exact ⟨key, fun h => by rw [rngL_len] at h; exact Nat.le_of_eq h.symm⟩
  · refine ⟨fun d hd => ⟨(key d hd).1, fun x H' hx => (key d hd).2 x H' ⟨hx.1, by rw [hx.2, Int.mul_one]⟩⟩, fun h => by rw [rngL_len] at h; exact Nat.le_of_eq h.symm⟩
theorem int_at {vl : VL} {i : Int} (r : Rel C G Rs F H σ e) (h : VRep C G Rs F H σ e v vl) (l : intV e vl = some i) : v = .int i := by
  unfold intV at l
  split at l
  · rename_i i' l1
    cases l
    exact (r.look h l1).int
  · cases l
theorem intV_set {vl : VL} : intV e vl.set = intV e vl := by
  unfold intV
  rw [lkv_set]
def rngM (ma mb : Nv → R VL) (st : Int) (n : Nv) : R (List D × List Nat) := (ma n).bind fun va e1 => (mb e1).bind fun vb e2 => (match intV e2 va, intV e2 vb with
  | some i, some j => (match rngV i j st with
    | some ds => .ok (ds, []) e2
    | none => .bad)
  | _, _ => .bad)
theorem rngV_at {i j st : Int} {ds : List D} (h : rngV i j st = some ds) : (-(2 ^ 62) ≤ i ∧ i < 2 ^ 62 ∧ -(2 ^ 62) ≤ j ∧ j < 2 ^ 62) ∧ ((st = 1 ∧ ds = rngL i 1 (j - i).toNat) ∨ (st = -1 ∧ ds = rngL i (-1) (i - j).toNat)) := by
  unfold rngV at h
  split at h
  · rename_i hb
    refine ⟨by have : lim62 = 2 ^ 62 := rfl; omega, ?_⟩
    split at h
    · rename_i h1; exact .inl ⟨h1, (Option.some.inj h).symm⟩
    · split at h
      · rename_i h1; exact .inr ⟨h1, (Option.some.inj h).symm⟩
      · cases h
  · cases h
theorem i_rng1 {mb : Nv → R VL} (hg : Gl X "range") (hm : X.mg "range" = none) (hn : notStar b = true) (hb : PE X b (tE C W mb)) : PI X tg (.Call (.Name "range" p0) [b] [] pos) (tI C W (rngM (fun n => .ok (.fz (.int 0)) n) mb 1)) :=
  PI_imp (pi_range1 hg hm (pa_cons hb pa_nil (starEach_ns hn)) (by rw [starEach_ns hn]; rfl)) fun σ H R ⟨G, Rs, F, n, r, q⟩ => ⟨G, Rs, F, n, r, (show After C W G Rs σ F (vI C) R ((mb n).bind fun vb e2 => (match intV e2 (.fz (.int 0)), intV e2 vb with
    | some i, some j => (match rngV i j 1 with
      | some ds => .ok (ds, []) e2
      | none => .bad)
    | _, _ => .bad)) from q).bnd fun vb e2 y F2 H2 _ s2 r2 h2 q2 => by
    split at q2
    · rename_i i j l1 l2
      cases (show some (0 : Int) = some i from l1)
      split at q2
      · rename_i ds hd
        obtain ⟨⟨b1, b2, b3, b4⟩, hd⟩ := rngV_at hd
        rcases hd with ⟨_, rfl⟩ | ⟨h, _⟩
        · refine ⟨j, by rw [int_at r2 h2 l2], b3, b4, ?_⟩
          have : (j - 0).toNat = j.toNat := by omega
          rw [this] at q2
          exact q2 _ F2 H2 Sub.refl r2 (wk_rng (.inr ⟨rfl, rfl⟩))
        · exact absurd h (by decide)
      · exact q2.elim
    · exact q2.elim⟩
theorem rng_two {ma mb : Nv → R VL} {st : Int} {R : It → Hp → Prop} (h : tI C W (rngM ma mb st) σ H R) {post : V → V → Hp → Prop}
    (k : ∀ i j H J, (-(2 ^ 62) ≤ i ∧ i < 2 ^ 62 ∧ -(2 ^ 62) ≤ j ∧ j < 2 ^ 62) → ((st = 1 ∧ J = Itr i (j - i).toNat) ∨ (st = -1 ∧ J = Itc i (-1) (i - j).toNat)) → (∀ J', J' = J → R J' H) → post (.int i) (.int j) H) :
    tE C W ma σ H fun x H1 => tE C W mb σ H1 fun y H2 => post x y H2 := by
  obtain ⟨G, Rs, F, n, r, q⟩ := h
  refine ⟨G, Rs, F, n, r, q.bnd fun va e1 x F1 H1 _ s1 r1 h1 q1 => ?_⟩
  obtain ⟨F2, s2, r2, h2⟩ := VRep.settle r1 h1
  refine ⟨G, Rs, F2, e1, r2, (After.mono s2 q1).bnd fun vb e2 y F3 H3 _ s3 r3 h3 q2 => ?_⟩
  split at q2
  · rename_i i j l1 l2
    split at q2
    · rename_i ds hd
      obtain ⟨hb, hd⟩ := rngV_at hd
      have ex := int_at r3 (h2.keepS s3) (intV_set.trans l1)
      have ey := int_at r3 h3 l2
      subst ex ey
      rcases hd with ⟨hst, rfl⟩ | ⟨hst, rfl⟩
      · exact k i j H3 (Itr i (j - i).toNat) hb (.inl ⟨hst, rfl⟩) fun J' e => q2 J' F3 H3 Sub.refl r3 (wk_rng (.inr ⟨rfl, e⟩))
      · exact k i j H3 (Itc i (-1) (i - j).toNat) hb (.inr ⟨hst, rfl⟩) fun J' e => q2 J' F3 H3 Sub.refl r3 (wk_rng (.inl e))
    · exact q2.elim
  · exact q2.elim
theorem i_rng2 {ma mb : Nv → R VL} (hg : Gl X "range") (hm : X.mg "range" = none) (hna : notStar a = true) (hnb : notStar b = true) (ha : PE X a (tE C W ma)) (hb : PE X b (tE C W mb)) : PI X tg (.Call (.Name "range" p0) [a, b] [] pos) (tI C W (rngM ma mb 1)) :=
  PI_imp (pi_range2 hg hm (pa_cons ha (pa_cons hb pa_nil (starEach_ns hnb)) (starEach_ns hna)) (by rw [starEach_ns hna, starEach_ns hnb]; rfl) (by rw [starEach_ns hnb]; rfl)) fun σ H R h =>
    rng_two h (post := fun x y H2 => ∃ i j : Int, [x, y] = [V.int i, V.int j] ∧ (-(2 ^ 62) ≤ i ∧ i < 2 ^ 62 ∧ -(2 ^ 62) ≤ j ∧ j < 2 ^ 62) ∧ R (Itr i (j - i).toNat) H2) fun i j H2 J hb hJ q => by
      rcases hJ with ⟨_, rfl⟩ | ⟨h, _⟩
      · exact ⟨i, j, rfl, hb, q _ rfl⟩
      · exact absurd h (by decide)
theorem i_rng3 {ma mb : Nv → R VL} {k : Nat} {p1 p2 : Pos} (hg : Gl X "range") (hm : X.mg "range" = none) (hna : notStar a = true) (hnb : notStar b = true) (ha : PE X a (tE C W ma)) (hb : PE X b (tE C W mb)) :
    PI X tg (.Call (.Name "range" p0) [a, b, .UnaryOp .USub (.Constant (.int 1) k p1) p2] [] pos) (tI C W (rngM ma mb (-1))) :=
  PI_imp (pi_range3 hg hm (pa_cons ha (pa_cons hb (pa_cons (pe_un un_neg pe_int) pa_nil (starEach_ns rfl)) (starEach_ns hnb)) (starEach_ns hna)) (starEach_ns hna) (by rw [starEach_ns hnb]; rfl)) fun σ H R h =>
    rng_two h (post := fun x y H2 => tUn (rU fun i => .int (-i)) (tC (.int 1)) σ H2 fun z H3 => ∃ (i j c : Int) (n : Nat), [x, y, z] = [V.int i, V.int j, V.int c] ∧ RgC i j c n ∧ R (Itc i c n) H3) fun i j H2 J hb hJ q => by
      rcases hJ with ⟨h, _⟩ | ⟨_, rfl⟩
      · exact absurd h (by decide)
      · exact ⟨1, rfl, i, j, -1, _, rfl, RgC.neg hb.1 hb.2.1 hb.2.2.1 hb.2.2.2, q _ rfl⟩
theorem str_get {z : Str} {i : Nat} {d : D} (h : (z.cps.toList.map fun c => D.str ⟨#[c]⟩)[i]? = some d) : ∃ c, z.cps[i]? = some c ∧ d = .str ⟨#[c]⟩ := by
  rw [List.getElem?_map] at h
  cases hc : z.cps.toList[i]? with
  | none => rw [hc] at h; cases h
  | some c =>
    rw [hc] at h
    exact ⟨c, by simpa using hc, (Option.some.inj h).symm⟩
theorem i_its {ma : Nv → R VL} (ok : XOk C W X) (ha : PE X a (tE C W ma)) : PI X tg a (tI C W fun n => (ma n).bind fun v e1 => (match walkD itsD e1 v with
      | some xs => .ok (xs, (lockV e1 v).2) (lockV e1 v).1
      | none => .bad)) :=
  PI_imp (pi_seq ha) fun σ H R ⟨G, Rs, F, n, r, q⟩ => ⟨G, Rs, F, n, r, q.bnd fun va e1 x F1 H1 _ s1 r1 h1 q1 => by
    split at q1
    · rename_i ds hd
      by_cases hs : walkD seqD e1 va = some ds
      · obtain ⟨F2, s2, r2, k, p, rfl, hh⟩ := held_of r1 h1 hs
        obtain ⟨xs, hx, _⟩ := hh G Rs F2 H1 σ _ Sub.refl r2 LkSame.refl
        refine .inl ⟨k, p, xs, rfl, by rw [ok.k]; exact hx, ?_⟩
        refine q1 _ F2 H1 s2 r2 fun G' Rs' F' H' σ' e' i sF r' lk => ?_
        obtain ⟨ys, hy, ry⟩ := hh G' Rs' F' H' σ' e' sF r' lk
        rw [ok.k]
        refine ⟨fun d hd => ?_, fun hi => ?_⟩
        · obtain ⟨w, hw, rw'⟩ := ry.get hd
          cases k with
          | true => exact ⟨⟨ys, w, hy, hw⟩, fun x H'' hyl => ⟨F', Sub.refl, hyl.1 ▸ r', by rw [Option.some.inj ((hyl.2 ys hy).symm.trans hw)]; exact rw'⟩⟩
          | false => exact ⟨⟨ys, w, hy, hw⟩, fun x H'' hyl => ⟨F', Sub.refl, hyl.1 ▸ r', by rw [Option.some.inj ((hyl.2 ys hy).symm.trans hw)]; exact rw'⟩⟩
        · have := ry.length
          have hi : i = ds.length := hi
          cases k with
          | true => exact ⟨ys, hy, by omega⟩
          | false => exact ⟨ys, hy, by omega⟩
      · have key : ∃ z, lkv e1 va = some (.str z) ∧ ds = z.cps.toList.map (fun c => .str ⟨#[c]⟩) := by
          have dd : ∀ d : D, itsD d = some ds → (seqD d = some ds) ∨ ∃ z, d = .str z ∧ ds = z.cps.toList.map (fun c => .str ⟨#[c]⟩) := fun d h => by
            cases d <;> simp [itsD, seqD] at h ⊢
            · exact h.symm
            · exact h
            · exact h
          cases va with
          | fz d =>
            rcases dd d hd with h | ⟨z, rfl, h⟩
            · exact absurd h hs
            · exact ⟨z, rfl, h⟩
          | fr d =>
            rcases dd d hd with h | ⟨z, rfl, h⟩
            · exact absurd h hs
            · exact ⟨z, rfl, h⟩
          | pk i =>
            simp only [walkD] at hd hs
            cases hi : e1[i]? with
            | none => rw [hi] at hd; cases hd
            | some o =>
              cases o with
              | none => rw [hi] at hd; cases hd
              | some p =>
                obtain ⟨fl, d⟩ := p
                rw [hi] at hd hs
                cases fl <;> first | (cases hd; done) | (
                  rcases dd d hd with h | ⟨z, rfl, h⟩
                  · exact absurd h hs
                  · exact ⟨z, by simp only [lkv, hi], h⟩)
        obtain ⟨z, hl, rfl⟩ := key
        obtain rfl := (r1.look h1 hl).str
        refine .inr ⟨z, rfl, ?_⟩
        have hk : ∃ F2, Sub F1 F2 ∧ Rel C G Rs F2 H1 σ (lockV e1 va).1 := by
          cases va with
          | fz d => exact ⟨F1, Sub.refl, r1⟩
          | fr d => exact ⟨F1, Sub.refl, r1⟩
          | pk i =>
            refine ⟨F1, Sub.refl, ?_⟩
            simp only [lockV]
            split
            · rename_i d hi
              exact r1.flag hi (.inl rfl) (.inr rfl)
            · exact r1
        obtain ⟨F2, s2, r2⟩ := hk
        refine q1 _ F2 H1 s2 r2 fun G' Rs' F' H' σ' e' i sF r' lk => ⟨fun d hd => ?_, fun hi => ?_⟩
        · obtain ⟨c, hc, rfl⟩ := str_get hd
          refine ⟨(Array.getElem?_eq_some_iff.mp hc).1, fun x H'' hyl => ?_⟩
          obtain ⟨rfl, c', hc', rfl⟩ := hyl
          rw [hc] at hc'; cases hc'
          exact ⟨F', Sub.refl, r', .str _⟩
        · show z.cps.size ≤ i
          rw [hi, List.length_map]
          simp
    · exact q1.elim⟩
theorem pair_ok {F0 : Hp} {T : Addr} {x y : V} {dx dy : D} (r : Rel C G Rs F H σ e) (hT : H T = none) (hx : Rep C F x dx) (hy : Rep C F y dy) : ∃ F', Sub F F' ∧ Rel C G Rs F' (upd H T (.tup [x, y])) σ e ∧ Rep C F' (.ref T) (.tup [dx, dy]) := by
  obtain ⟨s, r'⟩ := r.laid (o := .tup [x, y]) hT
  exact ⟨_, s, r', .tup (SqT.of upd_same) (.cons (hx.up s) (.cons (hy.up s) .nil))⟩
theorem i_enm {ma : Nv → R VL} {elts : List Expr} {kk : Nat} {tpos : Pos} (ok : XOk C W X) (hg : Gl X "enumerate") (hm : X.mg "enumerate" = none) (hn : notStar a = true) (ha : PE X a (tE C W ma)) :
    PI X (.Tuple elts kk tpos) (.Call (.Name "enumerate" p0) [a] [] pos) (tI C W fun n => (ma n).bind fun v e1 => (match walkD seqD e1 v with
      | some xs => .ok (enmL 0 xs, (lockV e1 v).2) (lockV e1 v).1
      | none => .bad)) :=
  PI_imp (pi_enumB hg hm (pa_cons ha pa_nil (starEach_ns hn)) (by rw [starEach_ns hn]; rfl)) fun σ H R ⟨G, Rs, F, n, r, q⟩ => ⟨G, Rs, F, n, r, q.bnd fun va e1 x F1 H1 _ s1 r1 h1 q1 => by
    split at q1
    · rename_i ds hs
      obtain ⟨F2, s2, r2, k, p, rfl, hh⟩ := held_of r1 h1 hs
      obtain ⟨xs, hx, _⟩ := hh G Rs F2 H1 σ _ Sub.refl r2 LkSame.refl
      refine ⟨k, p, xs, rfl, by rw [ok.k]; exact hx, ?_⟩
      refine q1 _ F2 H1 s2 r2 fun G' Rs' F' H' σ' e' i sF r' lk => ?_
      obtain ⟨ys, hy, ry⟩ := hh G' Rs' F' H' σ' e' sF r' lk
      rw [ok.k]
      refine ⟨fun d hd => ?_, fun hi => ?_⟩
      · obtain ⟨y, hy1, rfl⟩ := enmL_get _ _ _ _ hd
        obtain ⟨w, hw, rw'⟩ := ry.get hy1
        refine ⟨⟨ys, w, hy, hw⟩, fun x H'' hyl => ?_⟩
        obtain ⟨T, z, rfl, hT, rfl, hz⟩ := hyl
        have ez : z = w := Option.some.inj ((hz ys hy).symm.trans hw)
        subst ez
        rw [Nat.zero_add]
        exact pair_ok (F0 := F') r' hT (.int _) rw'
      · rw [enmL_len] at hi
        exact ⟨ys, hy, ry.length.trans hi.symm⟩
    · exact q1.elim⟩
theorem i_zip {ma mb : Nv → R VL} {elts : List Expr} {kk : Nat} {tpos : Pos} (ok : XOk C W X) (hg : Gl X "zip") (hm : X.mg "zip" = none) (hna : notStar a = true) (hnb : notStar b = true) (ha : PE X a (tE C W ma)) (hb : PE X b (tE C W mb)) :
    PI X (.Tuple elts kk tpos) (.Call (.Name "zip" p0) [a, b] [] pos) (tI C W fun n => (ma n).bind fun v e1 => (mb e1).bind fun w e2 => (match walkD seqD e2 v, walkD seqD e2 w with
      | some xs, some ys => .ok (zipL xs ys, (lockV (lockV e2 v).1 w).2 ++ (lockV e2 v).2) (lockV (lockV e2 v).1 w).1
      | _, _ => .bad)) :=
  PI_imp (pi_zipB hg hm (pa_cons ha (pa_cons hb pa_nil (starEach_ns hnb)) (starEach_ns hna)) (starEach_ns hna) (by rw [starEach_ns hnb]; rfl)) fun σ H R ⟨G, Rs, F, n, r, q⟩ => ⟨G, Rs, F, n, r, q.bnd fun va e1 x F1 H1 _ s1 r1 h1 q1 => by
    obtain ⟨F2, s2, r2, h2⟩ := VRep.settle r1 h1
    refine ⟨G, Rs, F2, e1, r2, (After.mono s2 q1).bnd fun vb e2 y F3 H3 _ s3 r3 h3 q2 => ?_⟩
    split at q2
    · rename_i ds1 ds2 hs1 hs2
      have hs1' : walkD seqD e2 va.set = some ds1 := by cases va <;> exact hs1
      have hs2' : walkD seqD e2 vb.set = some ds2 := by cases vb <;> exact hs2
      obtain ⟨F4, s4, r4, h4⟩ := VRep.settle r3 h3
      obtain ⟨F5, s5, r5, k1, p1, rfl, hh1⟩ := held_of r4 (h2.keepS (s3.trans s4)) hs1'
      have el : lockV e2 va.set = lockV e2 va := by cases va <;> rfl
      rw [el] at r5 hh1
      have hw : walkD seqD (lockV e2 va).1 vb.set = some ds2 := by
        cases va with
        | fz _ => exact hs2'
        | fr _ => exact hs2'
        | pk i =>
          simp only [lockV]
          split
          · rename_i d hi
            cases vb with
            | fz _ => exact hs2'
            | fr _ => exact hs2'
            | pk j =>
              obtain ⟨hil, _⟩ := List.getElem?_eq_some_iff.mp hi
              simp only [walkD, VL.set] at hs2' ⊢
              by_cases q : i = j
              · subst q
                rw [List.getElem?_set_self hil]
                rw [hi] at hs2'
                exact hs2'
              · rw [List.getElem?_set_ne q]
                exact hs2'
          · exact hs2'
      obtain ⟨F6, s6, r6, k2, p2, rfl, hh2⟩ := held_of r5 (VRep.keepS h4 s5) hw
      have el2 : lockV (lockV e2 va).1 vb.set = lockV (lockV e2 va).1 vb := by cases vb <;> rfl
      rw [el2] at r6 hh2
      have lk0 : LkSame σ (lockV e2 va).1 σ (lockV (lockV e2 va).1 vb).1 := by
        cases vb with
        | fz _ => exact LkSame.refl
        | fr _ => exact LkSame.refl
        | pk j =>
          refine LkE.same ?_
          rw [lockV]
          split
          · rename_i d' hj
            exact LkE.setAt hj (by decide) (.inl (by decide))
          · exact LkE.refl
      obtain ⟨xs1, hx1, rx1⟩ := hh1 G Rs F6 H3 σ _ s6 r6 lk0
      obtain ⟨xs2, hx2, rx2⟩ := hh2 G Rs F6 H3 σ _ Sub.refl r6 LkSame.refl
      refine ⟨k1, k2, p1, p2, xs1, xs2, rfl, by rw [ok.k]; exact hx1, by rw [ok.k]; exact hx2, ?_⟩
      refine q2 _ F6 H3 (s4.trans (s5.trans s6)) r6 fun G' Rs' F' H' σ' e' i sF r' lk => ?_
      obtain ⟨ys1, hy1, ry1⟩ := hh1 G' Rs' F' H' σ' e' (s6.trans sF) r' (lk0.trans lk)
      obtain ⟨ys2, hy2, ry2⟩ := hh2 G' Rs' F' H' σ' e' sF r' lk
      rw [ok.k]
      refine ⟨fun d hd => ?_, fun hi => ?_⟩
      · obtain ⟨d1, d2, g1, g2, rfl⟩ := zipL_get _ _ _ _ hd
        obtain ⟨w1, hw1, rw1⟩ := ry1.get g1
        obtain ⟨w2, hw2, rw2⟩ := ry2.get g2
        refine ⟨⟨ys1, ys2, w1, w2, hy1, hy2, hw1, hw2⟩, fun x H'' hyl => ?_⟩
        obtain ⟨T, z1, z2, rfl, hT, rfl, hz1, hz2⟩ := hyl
        have ez1 : z1 = w1 := Option.some.inj ((hz1 ys1 hy1).symm.trans hw1)
        have ez2 : z2 = w2 := Option.some.inj ((hz2 ys2 hy2).symm.trans hw2)
        subst ez1 ez2
        exact pair_ok (F0 := F') r' hT rw1 rw2
      · have hi : i = (zipL ds1 ds2).length := hi
        rw [zipL_len] at hi
        exact ⟨ys1, ys2, hy1, hy2, by rw [ry1.length, ry2.length]; exact hi⟩
    · exact q2.elim⟩
theorem i_ezp {ma mb : Nv → R VL} {elts : List Expr} {kk : Nat} {tpos pos2 p2 : Pos} (ok : XOk C W X) (hg : Gl X "zip") (hm : X.mg "zip" = none) (hg2 : Gl X "enumerate") (hm2 : X.mg "enumerate" = none) (hna : notStar a = true) (hnb : notStar b = true) (ha : PE X a (tE C W ma)) (hb : PE X b (tE C W mb)) :
    PI X (.Tuple elts kk tpos) (.Call (.Name "enumerate" p0) [.Call (.Name "zip" p2) [a, b] [] pos2] [] pos) (tI C W fun n => (ma n).bind fun v e1 => (mb e1).bind fun w e2 => (match walkD seqD e2 v, walkD seqD e2 w with
      | some xs, some ys => .ok (enmL 0 (zipL xs ys), (lockV (lockV e2 v).1 w).2 ++ (lockV e2 v).2) (lockV (lockV e2 v).1 w).1
      | _, _ => .bad)) :=
  PI_imp (pi_ez hg hm hg2 hm2 (pa_cons ha (pa_cons hb pa_nil (starEach_ns hnb)) (starEach_ns hna)) (starEach_ns hna) (by rw [starEach_ns hnb]; rfl)) fun σ H R ⟨G, Rs, F, n, r, q⟩ => ⟨G, Rs, F, n, r, q.bnd fun va e1 x F1 H1 _ s1 r1 h1 q1 => by
    obtain ⟨F2, s2, r2, h2⟩ := VRep.settle r1 h1
    refine ⟨G, Rs, F2, e1, r2, (After.mono s2 q1).bnd fun vb e2 y F3 H3 _ s3 r3 h3 q2 => ?_⟩
    split at q2
    · rename_i ds1 ds2 hs1 hs2
      have hs1' : walkD seqD e2 va.set = some ds1 := by cases va <;> exact hs1
      have hs2' : walkD seqD e2 vb.set = some ds2 := by cases vb <;> exact hs2
      obtain ⟨F4, s4, r4, h4⟩ := VRep.settle r3 h3
      obtain ⟨F5, s5, r5, k1, p1, rfl, hh1⟩ := held_of r4 (h2.keepS (s3.trans s4)) hs1'
      have el : lockV e2 va.set = lockV e2 va := by cases va <;> rfl
      rw [el] at r5 hh1
      have hw : walkD seqD (lockV e2 va).1 vb.set = some ds2 := by
        cases va with
        | fz _ => exact hs2'
        | fr _ => exact hs2'
        | pk i =>
          simp only [lockV]
          split
          · rename_i d hi
            cases vb with
            | fz _ => exact hs2'
            | fr _ => exact hs2'
            | pk j =>
              obtain ⟨hil, _⟩ := List.getElem?_eq_some_iff.mp hi
              simp only [walkD, VL.set] at hs2' ⊢
              by_cases q : i = j
              · subst q
                rw [List.getElem?_set_self hil]
                rw [hi] at hs2'
                exact hs2'
              · rw [List.getElem?_set_ne q]
                exact hs2'
          · exact hs2'
      obtain ⟨F6, s6, r6, k2, p2, rfl, hh2⟩ := held_of r5 (VRep.keepS h4 s5) hw
      have el2 : lockV (lockV e2 va).1 vb.set = lockV (lockV e2 va).1 vb := by cases vb <;> rfl
      rw [el2] at r6 hh2
      have lk0 : LkSame σ (lockV e2 va).1 σ (lockV (lockV e2 va).1 vb).1 := by
        cases vb with
        | fz _ => exact LkSame.refl
        | fr _ => exact LkSame.refl
        | pk j =>
          refine LkE.same ?_
          rw [lockV]
          split
          · rename_i d' hj
            exact LkE.setAt hj (by decide) (.inl (by decide))
          · exact LkE.refl
      obtain ⟨xs1, hx1, rx1⟩ := hh1 G Rs F6 H3 σ _ s6 r6 lk0
      obtain ⟨xs2, hx2, rx2⟩ := hh2 G Rs F6 H3 σ _ Sub.refl r6 LkSame.refl
      refine ⟨k1, k2, p1, p2, xs1, xs2, rfl, by rw [ok.k]; exact hx1, by rw [ok.k]; exact hx2, ?_⟩
      refine q2 _ F6 H3 (s4.trans (s5.trans s6)) r6 fun G' Rs' F' H' σ' e' i sF r' lk => ?_
      obtain ⟨ys1, hy1, ry1⟩ := hh1 G' Rs' F' H' σ' e' (s6.trans sF) r' (lk0.trans lk)
      obtain ⟨ys2, hy2, ry2⟩ := hh2 G' Rs' F' H' σ' e' sF r' lk
      rw [ok.k]
      refine ⟨fun d hd => ?_, fun hi => ?_⟩
      · obtain ⟨dz, gz, rfl⟩ := enmL_get _ _ _ _ hd
        obtain ⟨d1, d2, g1, g2, rfl⟩ := zipL_get _ _ _ _ gz
        obtain ⟨w1, hw1, rw1⟩ := ry1.get g1
        obtain ⟨w2, hw2, rw2⟩ := ry2.get g2
        refine ⟨⟨ys1, ys2, w1, w2, hy1, hy2, hw1, hw2⟩, fun x H'' hyl => ?_⟩
        obtain ⟨T1, T2, z1, z2, rfl, hT1, hT2, hne, rfl, hz1, hz2⟩ := hyl
        have ez1 : z1 = w1 := Option.some.inj ((hz1 ys1 hy1).symm.trans hw1)
        have ez2 : z2 = w2 := Option.some.inj ((hz2 ys2 hy2).symm.trans hw2)
        subst ez1 ez2
        obtain ⟨F7, s7, r7, t7⟩ := pair_ok (F0 := F') r' hT1 rw1 rw2
        rw [Nat.zero_add]
        obtain ⟨F8, s8, r8, t8⟩ := pair_ok (F0 := F7) r7 (show upd H' T1 (.tup [z1, z2]) T2 = none by rw [upd_ne (Ne.symm hne)]; exact hT2) (.int _) t7
        exact ⟨F8, s7.trans s8, r8, t8⟩
      · have hi : i = (enmL 0 (zipL ds1 ds2)).length := hi
        rw [enmL_len, zipL_len] at hi
        exact ⟨ys1, ys2, hy1, hy2, by rw [ry1.length, ry2.length]; exact hi⟩
    · exact q2.elim⟩
end
end RT

set_option Elab.async false
set_option linter.all false
set_option maxRecDepth 100000
/-! CoreRg: lists and tuples of ranges. -/
namespace RT
open PySem PySem.Spec PyProof.Rows L2
section
variable {C : Ct} {W : WX} {X : Cx} {G : Hp} {Rs : Rv} {F F' H H' : Hp} {σ : L2.St} {e : Nv} {v : V} {a b c tg : Expr} {es : List Expr} {pos pos2 p0 p1 : Pos}
def lrgM (tp : Bool) (ma mb : Nv → R VL) (n : Nv) : R VL := (ma n).bind fun va e1 => (mb e1).bind fun vb e2 => (match intV e2 va, intV e2 vb with
  | some i, some j => (match rngV i j 1 with
    | some ds => if ds.length ≤ lim then .ok (if tp then .fz (.tup ds) else .fr (.lst ds)) e2 else .bad
    | none => .bad)
  | _, _ => .bad)
theorem rgV_rep (i : Int) : ∀ (n : Nat) (k : Nat), RepL C F ((List.range n).map fun x => V.int (i + (x + k : Nat))) (rngL (i + (k : Nat)) 1 n)
  | 0, k => .nil
  | n + 1, k => by
    rw [List.range_succ_eq_map, List.map_cons, List.map_map]
    refine .cons ?_ ?_
    · rw [Nat.zero_add]; exact .int _
    · have := rgV_rep i n (k + 1)
      have e1 : (i + ((k + 1 : Nat) : Int)) = i + (k : Nat) + 1 := by omega
      rw [e1] at this
      have e2 : ((fun x => V.int (i + (x + k : Nat))) ∘ Nat.succ) = fun x => V.int (i + ((x + (k + 1) : Nat) : Int)) := by
        funext x
        show V.int (i + ((x + 1 + k : Nat) : Int)) = _
        rw [show x + 1 + k = x + (k + 1) from by omega]
      rw [e2]
      exact this
theorem rg_new {tp : Bool} {Q : VK} {i j : Int} {ds : List D} (r : Rel C G Rs F H σ e) (hd : rngV i j 1 = some ds) (hz : ds.length ≤ lim) (q : After C W G Rs σ F (vV C) Q (.ok (if tp then .fz (.tup ds) else .fr (.lst ds)) e)) :
    RgOk i j ∧ ∀ p, H p = none → Q (.ref p) (upd H p (if tp then .tup (rgV i j) else .lst (rgV i j))) := by
  obtain ⟨⟨b1, b2, b3, b4⟩, hd⟩ := rngV_at hd
  rcases hd with ⟨_, rfl⟩ | ⟨h, _⟩
  · rw [rngL_len] at hz
    have hr : RepL C F (rgV i j) (rngL i 1 (j - i).toNat) := by
      have := rgV_rep (C := C) (F := F) i (j - i).toNat 0
      have e0 : i + ((0 : Nat) : Int) = i := by omega
      rw [e0] at this
      exact this
    refine ⟨⟨b1, b2, b3, b4, by have : lim = 2 ^ 24 := rfl; omega⟩, fun p hp => ?_⟩
    cases tp with
    | true => exact new_after (p := (false, .tup _)) r q (.tup hp hr)
    | false => exact new_after (p := (true, .lst _)) r q (.lst hp hr)
  · exact absurd h (by decide)
theorem rg1_run {tp : Bool} {mb : Nv → R VL} {Q : VK} (h : tE C W (lrgM tp (fun n => .ok (.fz (.int 0)) n) mb) σ H Q) :
    tRg1 (tE C W mb) σ H fun a b H1 => RgOk a b ∧ ∀ q, H1 q = none → Q (.ref q) (upd H1 q (if tp then .tup (rgV a b) else .lst (rgV a b))) := by
  obtain ⟨G, Rs, F, n, r, q⟩ := h
  refine ⟨G, Rs, F, n, r, (show After C W G Rs σ F (vV C) Q ((mb n).bind fun vb e2 => (match intV e2 (.fz (.int 0)), intV e2 vb with
    | some i, some j => (match rngV i j 1 with
      | some ds => if ds.length ≤ lim then .ok (if tp then .fz (.tup ds) else .fr (.lst ds)) e2 else .bad
      | none => .bad)
    | _, _ => .bad)) from q).bnd fun vb e2 y F2 H2 _ s2 r2 h2 q2 => ?_⟩
  split at q2
  · rename_i i j l1 l2
    cases (show some (0 : Int) = some i from l1)
    split at q2
    · rename_i ds hd
      split at q2
      · rename_i hz
        exact ⟨j, int_at r2 h2 l2, rg_new r2 hd hz q2⟩
      · exact q2.elim
    · exact q2.elim
  · exact q2.elim
theorem rg2_run {tp : Bool} {ma mb : Nv → R VL} {Q : VK} (h : tE C W (lrgM tp ma mb) σ H Q) :
    tRg2 (tE C W ma) (tE C W mb) σ H fun a b H1 => RgOk a b ∧ ∀ q, H1 q = none → Q (.ref q) (upd H1 q (if tp then .tup (rgV a b) else .lst (rgV a b))) := by
  obtain ⟨G, Rs, F, n, r, q⟩ := h
  refine ⟨G, Rs, F, n, r, q.bnd fun va e1 x F1 H1 _ s1 r1 h1 q1 => ?_⟩
  obtain ⟨F2, s2, r2, h2⟩ := VRep.settle r1 h1
  refine ⟨G, Rs, F2, e1, r2, (After.mono s2 q1).bnd fun vb e2 y F3 H3 _ s3 r3 h3 q2 => ?_⟩
  split at q2
  · rename_i i j l1 l2
    split at q2
    · rename_i ds hd
      split at q2
      · rename_i hz
        exact ⟨i, j, int_at r3 (h2.keepS s3) (intV_set.trans l1), int_at r3 h3 l2, rg_new r3 hd hz q2⟩
      · exact q2.elim
    · exact q2.elim
  · exact q2.elim
theorem e_lrgL1 {mb : Nv → R VL} (ok : XOk C W X) (hg : Gl X "list") (hm : X.mg "list" = none) (hg2 : Gl X "range") (hm2 : X.mg "range" = none) (hn : notStar b = true) (hb : PE X b (tE C W mb)) :
    PE X (.Call (.Name "list" p0) [.Call (.Name "range" p1) [b] [] pos2] [] pos) (tE C W (lrgM false (fun n => .ok (.fz (.int 0)) n) mb)) :=
  PE_imp (pe_listRg ok.calm hg hm (prg_1 hg2 hm2 hb (starEach_ns hn)) rfl) fun σ H Q h => rg1_run (tp := false) h
theorem e_lrgT1 {mb : Nv → R VL} (ok : XOk C W X) (hg : Gl X "tuple") (hm : X.mg "tuple" = none) (hg2 : Gl X "range") (hm2 : X.mg "range" = none) (hn : notStar b = true) (hb : PE X b (tE C W mb)) :
    PE X (.Call (.Name "tuple" p0) [.Call (.Name "range" p1) [b] [] pos2] [] pos) (tE C W (lrgM true (fun n => .ok (.fz (.int 0)) n) mb)) :=
  PE_imp (pe_tupRg ok.calm hg hm (prg_1 hg2 hm2 hb (starEach_ns hn)) rfl) fun σ H Q h => rg1_run (tp := true) h
theorem e_lrgL2 {ma mb : Nv → R VL} (ok : XOk C W X) (hg : Gl X "list") (hm : X.mg "list" = none) (hg2 : Gl X "range") (hm2 : X.mg "range" = none) (hna : notStar a = true) (hn : notStar b = true) (ha : PE X a (tE C W ma)) (hb : PE X b (tE C W mb)) :
    PE X (.Call (.Name "list" p0) [.Call (.Name "range" p1) [a, b] [] pos2] [] pos) (tE C W (lrgM false ma mb)) :=
  PE_imp (pe_listRg ok.calm hg hm (prg_2 hg2 hm2 ha hb (starEach_ns hna) (starEach_ns hn) (by rw [starEach_ns hn]; rfl)) rfl) fun σ H Q h => rg2_run (tp := false) h
theorem e_lrgT2 {ma mb : Nv → R VL} (ok : XOk C W X) (hg : Gl X "tuple") (hm : X.mg "tuple" = none) (hg2 : Gl X "range") (hm2 : X.mg "range" = none) (hna : notStar a = true) (hn : notStar b = true) (ha : PE X a (tE C W ma)) (hb : PE X b (tE C W mb)) :
    PE X (.Call (.Name "tuple" p0) [.Call (.Name "range" p1) [a, b] [] pos2] [] pos) (tE C W (lrgM true ma mb)) :=
  PE_imp (pe_tupRg ok.calm hg hm (prg_2 hg2 hm2 ha hb (starEach_ns hna) (starEach_ns hn) (by rw [starEach_ns hn]; rfl)) rfl) fun σ H Q h => rg2_run (tp := true) h
end
end RT

set_option Elab.async false
set_option linter.all false
set_option maxRecDepth 100000
/-! CoreN: targets, comprehensions. -/
namespace RT
open PySem PySem.Spec PyProof.Rows L2

section
variable {C : Ct} {W : WX} {X : Cx} {G : Hp} {Rs : Rv} {F F' H H' : Hp} {σ σ' : L2.St} {e e' : Nv} {v : V} {a b c tg : Expr} {es : List Expr} {pos p0 : Pos}
/-- a frozen value to a name -/
theorem Rel.put {i : Nat} {d : D} {o : Slot} (r : Rel C G Rs F H σ e) (hi : e[i]? = some o) (h : Rep C F v d) : Rel C G Rs F H (σ.set i (some v)) (e.set i (some (.sh, d))) := by
  obtain ⟨hil, _⟩ := List.getElem?_eq_some_iff.mp hi
  have hsl : i < σ.length := by rw [r.len]; exact hil
  have bk : ∀ {j : Nat} {f : Fl} {d' : D}, (e.set i (some (.sh, d)))[j]? = some (some (f, d')) → f ≠ .sh → i ≠ j ∧ e[j]? = some (some (f, d')) := fun {j f d'} hj hf => by
    by_cases q : i = j
    · subst q; rw [List.getElem?_set_self hil] at hj; cases hj; exact absurd rfl hf
    · rw [List.getElem?_set_ne q] at hj; exact ⟨q, hj⟩
  refine ⟨by rw [List.length_set, List.length_set]; exact r.len, r.fh, r.gh, r.rs, fun j d' hj => ?_, fun j f d' hj hf => ?_, fun j k fi fj di dj p hjk a1 b1 a2 b2 e1 e2 => ?_⟩
  · by_cases q : i = j
    · subst q; rw [List.getElem?_set_self hil] at hj; cases hj
      exact ⟨v, List.getElem?_set_self hsl, h⟩
    · rw [List.getElem?_set_ne q] at hj ⊢
      exact r.sh j d' hj
  · obtain ⟨q, hj⟩ := bk hj hf
    rw [List.getElem?_set_ne q]
    exact r.ow j f d' hj hf
  · obtain ⟨q1, a1⟩ := bk a1 b1
    obtain ⟨q2, a2⟩ := bk a2 b2
    rw [List.getElem?_set_ne q1] at e1
    rw [List.getElem?_set_ne q2] at e2
    exact r.inj j k fi fj di dj p hjk a1 b1 a2 b2 e1 e2
theorem Rel.drop (r : Rel C G Rs F H σ e) (i : Nat) : Rel C G Rs F H (σ.set i none) (e.set i none) := by
  have bk : ∀ {j : Nat} {f : Fl} {d' : D}, (e.set i none)[j]? = some (some (f, d')) → i ≠ j ∧ e[j]? = some (some (f, d')) := fun {j f d'} hj => by
    by_cases q : i = j
    · subst q
      by_cases hil : i < e.length
      · rw [List.getElem?_set_self hil] at hj; cases hj
      · rw [List.getElem?_eq_none (by simpa using hil)] at hj; cases hj
    · rw [List.getElem?_set_ne q] at hj; exact ⟨q, hj⟩
  refine ⟨by rw [List.length_set, List.length_set]; exact r.len, r.fh, r.gh, r.rs, fun j d' hj => ?_, fun j f d' hj hf => ?_, fun j k fi fj di dj p hjk a1 b1 a2 b2 e1 e2 => ?_⟩
  · obtain ⟨q, hj⟩ := bk hj
    rw [List.getElem?_set_ne q]
    exact r.sh j d' hj
  · obtain ⟨q, hj⟩ := bk hj
    rw [List.getElem?_set_ne q]
    exact r.ow j f d' hj hf
  · obtain ⟨q1, a1⟩ := bk a1
    obtain ⟨q2, a2⟩ := bk a2
    rw [List.getElem?_set_ne q1] at e1
    rw [List.getElem?_set_ne q2] at e2
    exact r.inj j k fi fj di dj p hjk a1 b1 a2 b2 e1 e2
theorem Rel.wipe (r : Rel C G Rs F H σ e) : ∀ vs : List Nat, Rel C G Rs F H (wipe σ vs) (wipeN e vs)
  | [] => r
  | v :: vs => (Rel.wipe r vs).drop v
theorem wipe_get {σ : L2.St} {i : Nat} : ∀ {vs : List Nat}, (wipe σ vs)[i]? = if i ∈ vs then (σ[i]?).map (fun _ => none) else σ[i]?
  | [] => by simp [L2.wipe]
  | v :: vs => by
    unfold L2.wipe
    by_cases q : v = i
    · subst q
      rw [if_pos List.mem_cons_self]
      by_cases h : v < σ.length
      · rw [List.getElem?_set_self (by rw [wipe_length]; exact h)]
        simp [h]
      · rw [List.getElem?_eq_none (by rw [List.length_set, wipe_length]; omega), List.getElem?_eq_none (by omega)]
        rfl
    · rw [List.getElem?_set_ne q, wipe_get]
      have : i ∈ v :: vs ↔ i ∈ vs := by simp [Ne.symm q]
      simp only [this]
theorem wipeN_get {i : Nat} : ∀ {vs : List Nat}, i ∉ vs → (wipeN e vs)[i]? = e[i]?
  | [], _ => rfl
  | v :: vs, h => by
    rw [List.mem_cons, not_or] at h
    unfold wipeN
    rw [List.getElem?_set_ne (Ne.symm h.1)]
    exact wipeN_get h.2
theorem wipe_same {vs : List Nat} (hl : σ'.length = σ.length) (h : ∀ i, i ∉ vs → σ'[i]? = σ[i]?) : L2.wipe σ' vs = L2.wipe σ vs := by
  apply List.ext_getElem?
  intro i
  rw [wipe_get, wipe_get]
  by_cases q : i ∈ vs
  · rw [if_pos q, if_pos q]
    by_cases z : i < σ.length
    · simp [z, hl]
    · rw [List.getElem?_eq_none (by omega), List.getElem?_eq_none (by omega)]
  · rw [if_neg q, if_neg q]
    exact h i q
theorem wipe_idem {vs : List Nat} : L2.wipe (L2.wipe σ vs) vs = L2.wipe σ vs := wipe_same (wipe_length σ vs) fun i h => by rw [wipe_get, if_neg h]

/-! ### targets -/
/-- what a target's store does not touch -/
def StSame (vs : List Nat) (σ σ' : L2.St) (e e' : Nv) : Prop := σ'.length = σ.length ∧ ∀ i, i ∉ vs → σ'[i]? = σ[i]? ∧ (e'[i]? = e[i]? ∨ ∃ d d', e[i]? = some (some (Fl.io, d)) ∧ e'[i]? = some (some (Fl.io, d')))
def gT (C : Ct) (t : T) : TG := fun x σ H Q => ∃ G Rs F e e' d, Rel C G Rs F H σ e ∧ Rep C F x d ∧ setT t d e = some e' ∧ ∀ σ' H', StSame (tSl t) σ σ' e e' → Rel C G Rs F H' σ' e' → Q σ' H'
def gTs (C : Ct) (ts : List T) : TGs := fun xs σ H Q => ∃ G Rs F e e' ds, Rel C G Rs F H σ e ∧ RepL C F xs ds ∧ ts.length = ds.length ∧ setT.setTs ts ds e = some e' ∧ ∀ σ' H', StSame (tSl.tSls ts) σ σ' e e' → Rel C G Rs F H' σ' e' → Q σ' H'
theorem PG_imp {t : Expr} {g g' : TG} (h : PG X t g) (k : ∀ x σ H Q, g' x σ H Q → g x σ H Q) : PG X t g' := ⟨fun pins s σ H v u Q I r q => h.run pins s σ H v u Q I r (k v σ H Q q)⟩
theorem PGs_imp {t : List Expr} {g g' : TGs} (h : PGs X t g) (k : ∀ x σ H Q, g' x σ H Q → g x σ H Q) : PGs X t g' := ⟨fun pins s σ H v u Q I r q => h.run pins s σ H v u Q I r (k v σ H Q q)⟩
theorem StSame.refl {vs : List Nat} : StSame vs σ σ e e := ⟨rfl, fun _ _ => ⟨rfl, .inl rfl⟩⟩
theorem StSame.trans {vs ws : List Nat} {σ'' : L2.St} {e'' : Nv} (h1 : StSame vs σ σ' e e') (h2 : StSame ws σ' σ'' e' e'') : StSame (vs ++ ws) σ σ'' e e'' := by
  refine ⟨h2.1.trans h1.1, fun i h => ?_⟩
  rw [List.mem_append, not_or] at h
  obtain ⟨a1, b1⟩ := h1.2 i h.1
  obtain ⟨a2, b2⟩ := h2.2 i h.2
  refine ⟨a2.trans a1, ?_⟩
  rcases b1 with b1 | ⟨d, d', b1, c1⟩
  · rcases b2 with b2 | ⟨d2, d3, b2, c2⟩
    · exact .inl (b2.trans b1)
    · exact .inr ⟨d2, d3, b1 ▸ b2, c2⟩
  · rcases b2 with b2 | ⟨d2, d3, b2, c2⟩
    · exact .inr ⟨d, d', b1, b2.trans c1⟩
    · exact .inr ⟨d, d3, b1, c2⟩
theorem setT_v {i : Nat} {d : D} (h : setT (.v i) d e = some e') : (∃ o, e[i]? = some o) ∧ e' = e.set i (some (.sh, d)) ∧ (∀ d', e[i]? ≠ some (some (.lk, d'))) ∧ (∀ d', e[i]? ≠ some (some (.io, d'))) := by
  unfold setT at h
  split at h
  · cases h
  · cases h
  · rename_i o h1 h2 h3
    cases h
    exact ⟨⟨o, h3⟩, rfl, fun d' z => by rw [h3] at z; cases z; exact h2 d' rfl, fun d' z => by rw [h3] at z; cases z; exact h1 d' rfl⟩
  · cases h
theorem g_v {i : Nat} {x : Str} (hN : X.N.Nodup) (hi : X.N[i]? = some x) (hx : Loc X.env.scope x) (hf : X.fn x = true ∨ X.env.scope.names.lookup x = some .local) : PG X (.Name x pos) (gT C (.v i)) :=
  PG_imp (pg_name hN hi hx hf) fun x σ H Q ⟨G, Rs, F, e, e', d, r, h, hs, k⟩ => by
    obtain ⟨⟨o, ho⟩, rfl, _⟩ := setT_v hs
    refine k _ H ⟨List.length_set, fun j hj => ?_⟩ (r.put ho h)
    have : i ≠ j := fun z => hj (by simp [tSl, z])
    exact ⟨List.getElem?_set_ne this, .inl (List.getElem?_set_ne this)⟩
theorem setT_lk : ∀ (t : T) (d : D) (e e' : Nv), setT t d e = some e' → LkE e e'
  | .v i, d, e, e', h => by
    obtain ⟨_, rfl, h1, h2⟩ := setT_v h
    exact LkE.put h1 (.inl h2)
  | .fld i c k, d, e, e', h => by
    unfold setT at h
    split at h
    · rename_i c0 fs hi
      split at h
      · cases h
        exact LkE.setAt hi (by decide) (.inr ⟨_, rfl⟩)
      · cases h
    · cases h
  | .t ts, d, e, e', h => by
    cases d <;> simp only [setT, reduceCtorEq] at h
    rename_i ds
    split at h
    · exact setTs_lk ts ds e e' h
    · cases h
where
  setTs_lk : ∀ (ts : List T) (ds : List D) (e e' : Nv), setT.setTs ts ds e = some e' → LkE e e'
  | [], [], e, e', h => by
    simp only [setT.setTs] at h
    cases h; exact LkE.refl
  | t :: ts, d :: ds, e, e', h => by
    simp only [setT.setTs] at h
    split at h
    · rename_i e1 h1
      exact (setT_lk t d e e1 h1).trans (setTs_lk ts ds e1 e' h)
    · cases h
  | [], _ :: _, e, e', h => by simp only [setT.setTs, reduceCtorEq] at h
  | _ :: _, [], e, e', h => by simp only [setT.setTs, reduceCtorEq] at h
def notStars (es : List Expr) : Bool := es.all notStar
theorem assignEach_ns {env : Env} {x : Expr} {xs : List Expr} (h : notStar x = true) : assignEach (x :: xs) env = (false, assign x env) :: assignEach xs env := by
  cases x <;> first | rfl | cases h
theorem assignEach_ok {env : Env} : ∀ {xs : List Expr}, notStars xs = true → (assignEach xs env).length = xs.length ∧ (assignEach xs env).findIdx? (·.1) = none
  | [], _ => ⟨rfl, rfl⟩
  | x :: xs, h => by
    unfold notStars at h
    rw [List.all_cons, Bool.and_eq_true] at h
    obtain ⟨h1, h2⟩ := assignEach_ok (env := env) (xs := xs) h.2
    rw [assignEach_ns h.1]
    refine ⟨by simp [h1], ?_⟩
    rw [List.findIdx?_cons]
    simp [h2]
theorem gs_nil : PGs X [] (gTs C []) := PGs_imp pgs_nil fun xs σ H Q ⟨G, Rs, F, e, e', ds, r, h, hl, hs, k⟩ => by
  cases ds with
  | nil =>
    cases h
    simp only [setT.setTs] at hs
    cases hs
    exact ⟨rfl, k σ H StSame.refl r⟩
  | cons d ds => cases hl
theorem gs_cons {t : T} {ts : List T} {x : Expr} {xs : List Expr} (hn : notStar x = true) (h1 : PG X x (gT C t)) (h2 : PGs X xs (gTs C ts)) : PGs X (x :: xs) (gTs C (t :: ts)) :=
  PGs_imp (pgs_cons h1 h2 (by rw [assignEach_ns hn]; rfl)) fun xs σ H Q ⟨G, Rs, F, e, e', ds, r, h, hl, hs, k⟩ => by
    cases h with
    | nil => cases hl
    | @cons v d vs ds hv hr =>
      simp only [setT.setTs] at hs
      split at hs
      · rename_i e1 he1
        refine ⟨v, vs, rfl, G, Rs, F, e, e1, d, r, hv, he1, fun σ1 H1 s1 r1 => ⟨G, Rs, F, e1, e', ds, r1, hr, by simpa using hl, hs, fun σ2 H2 s2 r2 => k σ2 H2 (s1.trans s2) r2⟩⟩
      · cases hs
theorem g_t {ts : List T} {xs : List Expr} {k : Nat} (ok : XOk C W X) (hn : notStars xs = true) (hl : xs.length = ts.length) (h : PGs X xs (gTs C ts)) : PG X (.Tuple xs k pos) (gT C (.t ts)) :=
  PG_imp (pg_tup (n := ts.length) ok.calm h ((assignEach_ok hn).1.trans hl) (assignEach_ok hn).2) fun x σ H Q ⟨G, Rs, F, e, e', d, r, h, hs, k⟩ => by
    cases d <;> simp only [setT, reduceCtorEq] at hs
    rename_i ds
    split at hs
    · rename_i hlen
      cases h with
      | @tup a xs _ hx hr =>
        refine ⟨a, xs, rfl, ?_, hr.length.trans hlen.symm, G, Rs, F, e, e', ds, r, hr, hlen, hs, k⟩
        rw [ok.k]
        exact r.fh.sqT hx
    · cases hs

/-! ### comprehensions -/
theorem takes_noX {Y : Cx} : Takes Y (fun _ _ _ _ => False) := fun u s' h => by
  obtain ⟨_, _, _, _, _, _, _, _, _, _, _, _, _, _, _, _, w⟩ := h
  exact w.elim
/-- the context of a block -/
theorem XOk.blk (ok : XOk C W X) {s : Shared} {H : Hp} {scope : Scope} {ce : Env} {fp : List Addr} : XOk C (fun _ _ _ _ => False) (X.blk s H scope ce fp) := ⟨ok.k, ok.calm, takes_noX, ok.nd, ok.u, ok.is⟩
/-- locked slots stay -/
def KpE {α : Type} (m : Nv → R α) : Prop := ∀ e a e', m e = .ok a e' → LkE e e'
def turnM (mt : Nv → R Bool) (me : Nv → R VL) (e2 : Nv) : R (Option D) := (mt e2).bind fun b e3 => if b then (me e3).bind fun v e4 => (match fzv e4 v with
  | some (d, e5) => .ok (some d) e5
  | none => .bad) else .ok none e3
def lcM (vs : List Nat) (t : T) (mi : Nv → R (List D × List Nat)) (mt : Nv → R Bool) (me : Nv → R VL) (e : Nv) : R VL := (mi e).bind fun p e1 => if noOwn e1 vs then
  (lcGo vs t (turnM mt me) p.1 [] (wipeN e1 vs)).bind fun ds e6 => (match unlock (backN e1 e6 vs) p.2 with
    | some e7 => .ok (.fr (.lst ds)) e7
    | none => .bad)
  else .bad
theorem fzv_lk {vl : VL} {d : D} (h : fzv e vl = some (d, e')) : LkE e e' := by
  cases vl with
  | fz x => cases h; exact LkE.refl
  | fr x => cases h; exact LkE.refl
  | pk i =>
    simp only [fzv] at h
    split at h
    · rename_i d0 hi
      cases h
      exact LkE.setAt hi (by decide) (.inl (by decide))
    · cases h; exact LkE.refl
    · cases h
theorem noOwn_at {vs : List Nat} (h : noOwn e vs = true) {i : Nat} (hi : i ∈ vs) : e[i]? = some none ∨ ∃ d, e[i]? = some (some (Fl.sh, d)) := by
  unfold noOwn at h
  have := List.all_eq_true.mp h i hi
  split at this
  · rename_i z; exact .inl z
  · rename_i d z; exact .inr ⟨d, z⟩
  · cases this
theorem LkE.wipe {e1 : Nv} {vs : List Nat} (hn : noOwn e1 vs = true) (h : LkE e1 e) : LkE e1 (wipeN e vs) := by
  have no : ∀ {l : Nat} {fl : Fl} {d : D}, e1[l]? = some (some (fl, d)) → fl ≠ .sh → l ∉ vs := fun {l fl d} hl hf hm => by
    rcases noOwn_at hn hm with z | ⟨d', z⟩
    · rw [hl] at z; cases z
    · rw [hl] at z; cases z; exact hf rfl
  refine ⟨fun l d hl => ?_, fun l d hl => ?_⟩
  · rw [wipeN_get (no hl (by decide))]
    exact h.lk l d hl
  · rw [wipeN_get (no hl (by decide))]
    exact h.io l d hl
theorem LkE.wipeS {e1 : Nv} {vs : List Nat} (hn : noOwn e1 vs = true) (h : LkE e1 e) : LkSame σ e1 (L2.wipe σ vs) e := by
  have no : ∀ {l : Nat} {fl : Fl} {d : D}, e1[l]? = some (some (fl, d)) → fl ≠ .sh → l ∉ vs := fun {l fl d} hl hf hm => by
    rcases noOwn_at hn hm with z | ⟨d', z⟩
    · rw [hl] at z; cases z
    · rw [hl] at z; cases z; exact hf rfl
  exact ⟨fun l d hl => ⟨h.lk l d hl, by rw [wipe_get, if_neg (no hl (by decide))]⟩, fun l d hl => ⟨h.io l d hl, by rw [wipe_get, if_neg (no hl (by decide))]⟩⟩
/-- the new list grows -/
theorem Rel.grow {D0 : Addr} {l l' : List V} (r : Rel C (upd G D0 (.lst l)) (Rs.add D0) F H σ e) : Rel C (upd G D0 (.lst l')) (Rs.add D0) F (upd H D0 (.lst l')) σ e := by
  have f0 : F D0 = none := (r.rs D0 (.inr rfl)).1
  have hD : H D0 = some (.lst l) := r.gh _ _ upd_same
  refine ⟨r.len, r.fh.updR f0, fun a u h => ?_, fun a h => ⟨(r.rs a h).1, ?_⟩, fun i d h => r.sh i d h, fun i fl d h hf => ?_, r.inj⟩
  · by_cases q : a = D0
    · subst q; rw [upd_same] at h ⊢; exact h
    · rw [upd_ne q] at h ⊢
      exact r.gh a u (by rw [upd_ne q]; exact h)
  · by_cases q : a = D0
    · subst q; rw [upd_same]; exact nofun
    · rw [upd_ne q]; exact (r.rs a h).2
  · obtain ⟨p, h1, h2, h3, h4, c⟩ := r.ow i fl d h hf
    have np : p ≠ D0 := fun z => h3 (.inr z)
    rw [upd_ne np] at h4
    refine ⟨p, h1, h2, h3, by rw [upd_ne np]; exact h4, ?_⟩
    cases c with
    | l c => exact .l (c.at (upd_ne np))
    | @obj dx vs c fs z zk a b g d f k gg =>
      have nd : dx ≠ D0 := fun z => f (.inr z)
      rw [upd_ne nd] at d
      exact .obj z zk (a.at (upd_ne np) (upd_ne nd)) b g (by rw [upd_ne nd]; exact d) f k gg
theorem Rel.begin {D0 : Addr} (r : Rel C G Rs F H σ e) (n : H D0 = none) : Rel C (upd G D0 (.lst [])) (Rs.add D0) F (upd H D0 (.lst [])) σ e := by
  obtain ⟨f0, n0, g0, no⟩ := r.fresh n
  refine ⟨r.len, r.fh.updR f0, r.gh.upd2, fun a h => ?_, fun i d h => r.sh i d h, fun i fl d h hf => ?_, r.inj⟩
  · rcases h with h | rfl
    · have : a ≠ D0 := by rintro rfl; exact n0 h
      rw [upd_ne this]
      exact r.rs a h
    · exact ⟨f0, by rw [upd_same]; exact nofun⟩
  · obtain ⟨p, h1, h2, h3, h4, c⟩ := r.ow i fl d h hf
    have np : p ≠ D0 := by rintro rfl; exact c.there n
    refine ⟨p, h1, h2, fun z => Or.elim z h3 np, by rw [upd_ne np]; exact h4, ?_⟩
    cases c with
    | l c => exact .l (c.at (upd_ne np))
    | @obj dx vs c fs z zk a b g d f k gg =>
      have nd : dx ≠ D0 := by rintro rfl; exact a.there.2 n
      exact .obj z zk (a.at (upd_ne np) (upd_ne nd)) b g (by rw [upd_ne nd]; exact d) (fun z => Or.elim z f nd) k gg
theorem Rel.ends {D0 : Addr} {l : List V} (r : Rel C (upd G D0 (.lst l)) (Rs.add D0) F H σ e) (g0 : G D0 = none) : Rel C G Rs F H σ e := by
  refine ⟨r.len, r.fh, fun a u h => r.gh a u ?_, fun a h => r.rs a (.inl h), r.sh, fun i fl d h hf => ?_, r.inj⟩
  · rw [upd_ne (ne_of_none h g0)]; exact h
  · obtain ⟨p, h1, h2, h3, h4, c⟩ := r.ow i fl d h hf
    have np : p ≠ D0 := fun z => h3 (.inr z)
    rw [upd_ne np] at h4
    refine ⟨p, h1, h2, fun z => h3 (.inl z), h4, ?_⟩
    cases c with
    | l c => exact .l c
    | @obj dx vs c fs z zk a b g d f k gg =>
      have nd : dx ≠ D0 := fun z => f (.inr z)
      rw [upd_ne nd] at d
      exact .obj z zk a b g d (fun z => f (.inl z)) k gg
/-- the slots as they were -/
theorem backN_get {e1 e2 : Nv} {i : Nat} : ∀ {vs : List Nat}, (backN e1 e2 vs)[i]? = if i ∈ vs then (e2[i]?).map (fun _ => (e1[i]?).getD none) else e2[i]?
  | [] => by simp [backN]
  | v :: vs => by
    unfold backN
    by_cases q : v = i
    · subst q
      rw [if_pos List.mem_cons_self]
      by_cases h : v < (backN e1 e2 vs).length
      · rw [List.getElem?_set_self h]
        have h2 : v < e2.length := by
          have := backN_get (e1 := e1) (e2 := e2) (i := v) (vs := vs)
          rw [List.getElem?_eq_getElem h] at this
          split at this
          · cases hh : e2[v]? with
            | none => rw [hh] at this; cases this
            | some o => exact (List.getElem?_eq_some_iff.mp hh).1
          · exact (List.getElem?_eq_some_iff.mp this.symm).1
        simp [h2]
      · rw [List.getElem?_eq_none (by rw [List.length_set]; omega)]
        have := backN_get (e1 := e1) (e2 := e2) (i := v) (vs := vs)
        rw [List.getElem?_eq_none (by omega)] at this
        split at this
        · exact this
        · rw [← this]; rfl
    · rw [List.getElem?_set_ne q, backN_get]
      have : i ∈ v :: vs ↔ i ∈ vs := by simp [Ne.symm q]
      simp only [this]
theorem backN_len {e1 e2 : Nv} : ∀ {vs : List Nat}, (backN e1 e2 vs).length = e2.length
  | [] => rfl
  | v :: vs => by unfold backN; rw [List.length_set, backN_len]
theorem Rel.back {F0 H0 : Hp} {e1 : Nv} {vs : List Nat} (r1 : Rel C G Rs F0 H0 σ e1) (s : Sub F0 F) (hn : noOwn e1 vs = true) (r : Rel C G Rs F H (L2.wipe σ vs) e) : Rel C G Rs F H σ (backN e1 e vs) := by
  have bk : ∀ {j : Nat} {f : Fl} {d' : D}, (backN e1 e vs)[j]? = some (some (f, d')) → f ≠ .sh → j ∉ vs ∧ e[j]? = some (some (f, d')) := fun {j f d'} hj hf => by
    rw [backN_get] at hj
    by_cases q : j ∈ vs
    · rw [if_pos q] at hj
      cases he : e[j]? with
      | none => rw [he] at hj; cases hj
      | some o =>
        rw [he] at hj
        have hj : (e1[j]?).getD none = some (f, d') := Option.some.inj hj
        rcases noOwn_at hn q with z | ⟨d, z⟩
        · rw [z] at hj; cases hj
        · rw [z] at hj; cases hj; exact absurd rfl hf
    · rw [if_neg q] at hj
      exact ⟨q, hj⟩
  have wg : ∀ {j : Nat}, j ∉ vs → (L2.wipe σ vs)[j]? = σ[j]? := fun {j} h => by rw [wipe_get, if_neg h]
  refine ⟨by rw [backN_len, ← r.len, wipe_length], r.fh, r.gh, r.rs, fun j d hj => ?_, fun j f d hj hf => ?_, fun j k fi fj di dj p hjk a1 b1 a2 b2 x1 x2 => ?_⟩
  · rw [backN_get] at hj
    by_cases q : j ∈ vs
    · rw [if_pos q] at hj
      cases he : e[j]? with
      | none => rw [he] at hj; cases hj
      | some o =>
        rw [he] at hj
        have hj : (e1[j]?).getD none = some (Fl.sh, d) := Option.some.inj hj
        rcases noOwn_at hn q with z | ⟨d', z⟩
        · rw [z] at hj; cases hj
        · rw [z] at hj; cases hj
          obtain ⟨u, h1, h2⟩ := r1.sh j d z
          exact ⟨u, h1, h2.up s⟩
    · rw [if_neg q] at hj
      obtain ⟨u, h1, h2⟩ := r.sh j d hj
      rw [wg q] at h1
      exact ⟨u, h1, h2⟩
  · obtain ⟨q, hj⟩ := bk hj hf
    obtain ⟨p, h1, h⟩ := r.ow j f d hj hf
    rw [wg q] at h1
    exact ⟨p, h1, h⟩
  · obtain ⟨q1, a1⟩ := bk a1 b1
    obtain ⟨q2, a2⟩ := bk a2 b2
    refine r.inj j k fi fj di dj p hjk a1 b1 a2 b2 ?_ ?_
    · rw [wg q1]; exact x1
    · rw [wg q2]; exact x2
end
end RT

set_option Elab.async false
set_option linter.all false
set_option maxRecDepth 100000
/-! CoreO: a comprehension's reading. -/
namespace RT
open PySem PySem.Spec PyProof.Rows L2
section
variable {C : Ct} {W : WX} {X : Cx} {G : Hp} {Rs : Rv} {F F' H H' : Hp} {σ σ' : L2.St} {e e' : Nv} {v : V} {a b c tg iter : Expr} {es : List Expr} {pos p0 : Pos}
theorem lc_run {vs : List Nat} {t : T} {mi : Nv → R (List D × List Nat)} {mt : Nv → R Bool} {me : Nv → R VL} {Q : VK} (kt : KpE mt) (ke : KpE me) (hsub : ∀ i ∈ tSl t, i ∈ vs) (hpl : tPl t = true)
    (h : tE C W (lcM vs t mi mt me) σ H Q) : tLc (tI C W mi) (gT C t) (tG C (fun _ _ _ _ => False) vEq mt) (tE C (fun _ _ _ _ => False) me) vs σ H Q := by
  obtain ⟨G, Rs, F, n, r, q⟩ := h
  refine ⟨G, Rs, F, n, r, q.bnd fun p e1 J F1 H1 _ s1 r1 hW q1 => ?_⟩
  obtain ⟨its, ls⟩ := p
  dsimp only at q1
  have hW : WkD C F1 σ e1 J its := hW
  split at q1
  case isFalse => exact q1.elim
  rename_i hown
  intro D0 hD0
  have g0 : G D0 = none := (r1.fresh hD0).2.2.1
  generalize hR : lcGo vs t (turnM mt me) its [] (wipeN e1 vs) = Rr at q1
  refine ⟨fun i m H' => m = its.length - i ∧ i ≤ its.length ∧ ∃ F' e acc accV, Sub F1 F' ∧ Rel C (upd G D0 (.lst accV)) (Rs.add D0) F' H' (L2.wipe σ vs) e ∧ RepL C F' accV acc ∧ lcGo vs t (turnM mt me) (its.drop i) acc e = Rr ∧ LkE e1 e,
    ⟨its.length, by simp, Nat.zero_le _, F1, wipeN e1 vs, [], [], Sub.refl, (r1.begin hD0).wipe vs, .nil, by rw [List.drop_zero]; exact hR, LkE.refl.wipe hown⟩, ?_⟩
  rintro i m H2 ⟨rfl, hi, F2, e2, acc, accV, s2, r2, ra, hgo, lke⟩
  have lkS : LkSame σ e1 (L2.wipe σ vs) e2 := lke.wipeS hown
  obtain ⟨hg, hst⟩ := hW _ _ F2 H2 (L2.wipe σ vs) e2 i s2 r2 lkS
  by_cases hlt : i < its.length
  case neg =>
    have hi' : i = its.length := by omega
    refine .inl ⟨hst hi', ?_⟩
    rw [hi', List.drop_length] at hgo
    rw [← hgo] at q1
    simp only [lcGo, R.bind] at q1
    split at q1
    · rename_i e7 hu
      have f0 : F2 D0 = none := (r2.rs D0 (.inr rfl)).1
      have hDD : H2 D0 = some (.lst accV) := r2.gh _ _ upd_same
      have r3 := r2.ends g0
      have r4 := Rel.back r1 s2 hown r3
      have r5 := unlock_ok r4 hu
      refine q1 (.ref D0) F2 H2 s2 r5 ⟨D0, rfl, f0, (r1.fresh hD0).2.1, g0, .lst hDD ra, fun j fl d' hj hf z => ?_⟩
      obtain ⟨p, h1, _⟩ := r5.ow j fl d' hj hf
      rw [z] at h1; cases h1
      -- a slot's own list is not the new one
      have : ∃ fl0 d0, fl0 ≠ Fl.sh ∧ (backN e1 e2 vs)[j]? = some (some (fl0, d0)) := by
        have gen : ∀ {ls : List Nat} {ea eb : Nv}, unlock ea ls = some eb → eb[j]? = some (some (fl, d')) → fl ≠ .sh → ∃ fl0 d0, fl0 ≠ Fl.sh ∧ ea[j]? = some (some (fl0, d0)) := by
          intro ls
          induction ls with
          | nil => intro ea eb hu hj hf; cases hu; exact ⟨fl, d', hf, hj⟩
          | cons l ls ih =>
            intro ea eb hu hj hf
            simp only [unlock] at hu
            split at hu
            · rename_i d0 hd0
              obtain ⟨fl1, d1, hf1, h1⟩ := ih hu hj hf
              by_cases ql : l = j
              · subst ql; exact ⟨.lk, d0, by decide, hd0⟩
              · rw [List.getElem?_set_ne ql] at h1
                exact ⟨fl1, d1, hf1, h1⟩
            · cases hu
        exact gen hu hj hf
      obtain ⟨fl0, d0, hf0, hj0⟩ := this
      rw [backN_get] at hj0
      by_cases qv : j ∈ vs
      · rw [if_pos qv] at hj0
        cases he : e2[j]? with
        | none => rw [he] at hj0; cases hj0
        | some o =>
          rw [he] at hj0
          have hj0 : (e1[j]?).getD none = some (fl0, d0) := Option.some.inj hj0
          rcases noOwn_at hown qv with w | ⟨d'', w⟩
          · rw [w] at hj0; cases hj0
          · rw [w] at hj0; cases hj0; exact hf0 rfl
      · rw [if_neg qv] at hj0
        obtain ⟨p', a1, _, a3, _⟩ := r2.ow j fl0 d0 hj0 hf0
        rw [wipe_get, if_neg qv, z] at a1
        cases a1
        exact a3 (.inr rfl)
    · exact q1.elim
  case pos =>
    obtain ⟨hgo1, hy⟩ := hg its[i] (List.getElem?_eq_getElem hlt)
    refine .inr ⟨hgo1, fun H' => ∃ F' e acc accV, Sub F1 F' ∧ Rel C (upd G D0 (.lst accV)) (Rs.add D0) F' H' (L2.wipe σ vs) e ∧ RepL C F' accV acc ∧ lcGo vs t (turnM mt me) (its.drop (i + 1)) acc e = Rr ∧ LkE e1 e,
      fun H' hN => ⟨its.length - (i + 1), by omega, rfl, hlt, hN⟩, fun x H3 hyl => ?_⟩
    obtain ⟨F3, s3, r3, hx⟩ := hy x H3 hyl
    rw [List.drop_eq_getElem_cons hlt] at hgo
    simp only [lcGo] at hgo
    split at hgo
    case h_2 => rw [← hgo] at q1; exact q1.elim
    rename_i e3 he3
    refine ⟨_, _, F3, e2, e3, its[i], r3, hx, he3, fun σ4 H4 st4 r4 => ?_⟩
    have hw4 : L2.wipe σ4 vs = L2.wipe (L2.wipe σ vs) vs := wipe_same st4.1 fun j hj => (st4.2 j fun z => hj (hsub j z)).1
    rw [wipe_idem] at hw4
    refine ⟨hw4, _, _, F3, e3, r4, ?_⟩
    have lk3 : LkE e1 e3 := lke.trans (setT_lk t _ _ _ he3)
    -- the turn
    unfold turnM at hgo
    cases hmt : mt e3 with
    | bad => rw [hmt] at hgo; simp only [R.bind] at hgo; rw [← hgo] at q1; exact q1.elim
    | exc c d e => rw [hmt] at hgo; simp only [R.bind] at hgo; rw [← hgo] at q1; exact q1.elim
    | ok b4 e4 =>
      rw [hmt] at hgo
      simp only [R.bind] at hgo
      intro b5 F5 H5 s5 r5 hb5
      obtain rfl : b5 = b4 := hb5
      have lk4 : LkE e1 e4 := lk3.trans (kt _ _ _ hmt)
      cases b5 with
      | false =>
        rw [if_neg Bool.false_ne_true] at hgo ⊢
        refine ⟨F5, wipeN e4 vs, acc, accV, s2.trans (s3.trans s5), by rw [← hw4]; exact r5.wipe vs, ra.up (s3.trans s5), hgo, lk4.wipe hown⟩
      | true =>
        rw [if_pos rfl] at hgo ⊢
        refine ⟨_, _, F5, e4, r5, ?_⟩
        cases hme : me e4 with
        | bad => rw [hme] at hgo; simp only [R.bind] at hgo; rw [← hgo] at q1; exact q1.elim
        | exc c d e => rw [hme] at hgo; simp only [R.bind] at hgo; rw [← hgo] at q1; exact q1.elim
        | ok v6 e6 =>
          rw [hme] at hgo
          simp only [R.bind] at hgo
          intro y F6 H6 s6 r6 hy6
          have hy6 : VRep C _ _ F6 H6 σ4 e6 y v6 := hy6
          cases hz : fzv e6 v6 with
          | none => rw [hz] at hgo; simp only at hgo; rw [← hgo] at q1; exact q1.elim
          | some de =>
            obtain ⟨d7, e7⟩ := de
            rw [hz] at hgo
            simp only at hgo
            obtain ⟨F7, s7, r7, h7⟩ := hy6.frozen r6 hz
            split at hgo
            case isFalse => rw [← hgo] at q1; exact q1.elim
            rename_i hlen
            have sA := s3.trans (s5.trans (s6.trans s7))
            refine ⟨accV, r7.gh _ _ upd_same, by rw [ra.length, ← lim_eq]; exact hlen, ?_⟩
            refine ⟨F7, wipeN e7 vs, acc ++ [d7], accV ++ [y], s2.trans sA, ?_, (ra.up sA).append (.cons h7 .nil), hgo, (lk4.trans ((ke _ _ _ hme).trans (fzv_lk hz))).wipe hown⟩
            rw [← hw4]
            exact (r7.grow).wipe vs
/-- no set literal is walked -/
def noSetD : Expr → Bool
  | .Set _ _ _ => false
  | _ => true
theorem e_lc {vs : List Nat} {t : T} {mi : Nv → R (List D × List Nat)} {mt : Nv → R Bool} {me : Nv → R VL} {elt : Expr} {ifs : List Expr} {scope : Scope} {own : List (Str × Nat)} (ok : XOk C W X) (kt : KpE mt) (ke : KpE me) (hsub : ∀ i ∈ tSl t, i ∈ own.map (·.2)) (hpl : tPl t = true)
    (hi : PI X tg iter (tI C W mi)) (bk : BlkOk X.N X.env.scope scope own) (hg : ∀ (s : Shared) (H : Hp) (C' : Addr) (cl : List (Str × Addr)) (fp : List Addr), PG (X.blk s H scope (compEnvC scope cl C' X.env) fp) tg (gT C t))
    (ht : ∀ (s : Shared) (H : Hp) (C' : Addr) (cl : List (Str × Addr)) (fp : List Addr), PTs (X.blk s H scope (compEnvC scope cl C' X.env) fp) ifs (tG C (fun _ _ _ _ => False) vEq mt))
    (he : ∀ (s : Shared) (H : Hp) (C' : Addr) (cl : List (Str × Addr)) (fp : List Addr), PE (X.blk s H scope (compEnvC scope cl C' X.env) fp) elt (tE C (fun _ _ _ _ => False) me)) (hs : ∀ x, foldedSetIterable iter X.env x = pure x) :
    PE X (.ListComp elt [⟨tg, iter, ifs, 0⟩] scope pos) (tE C W (lcM (own.map (·.2)) t mi mt me)) :=
  PE_imp (pe_lc ok.calm ok.nd hi bk hg ht he hs) fun σ H Q h => lc_run kt ke hsub hpl h
end
end RT

set_option Elab.async false
set_option linter.all false
set_option maxRecDepth 100000
/-! CoreDc: a dict comprehension's reading. -/
namespace RT
open PySem PySem.Spec PyProof.Rows L2
section
variable {C : Ct} {W : WX} {X : Cx} {G : Hp} {Rs : Rv} {F F' H H' : Hp} {σ σ' : L2.St} {e e' : Nv} {v : V} {a b c tg iter : Expr} {es : List Expr} {pos p0 : Pos}
theorem RepK.anyB {k : Key} : ∀ {kvs : List (Key × V)} {ds : List (Key × RT.D)}, RepK C F kvs ds → (kvs.any fun kv => decide (kv.1 = k)) = (ds.any fun kv => decide (kv.1 = k))
  | _, _, .nil => rfl
  | _, _, .cons _ r => by simp [RepK.anyB r]
theorem RepK.upd {k : Key} {d : RT.D} (hv : Rep C F v d) : ∀ {kvs : List (Key × V)} {ds : List (Key × RT.D)}, RepK C F kvs ds → RepK C F (kvs.map fun kv => if kv.1 = k then (kv.1, v) else kv) (ds.map fun kv => if kv.1 = k then (kv.1, d) else kv)
  | _, _, .nil => .nil
  | _, _, @RepK.cons _ _ k' v' d' vs ds h r => by
    rw [List.map_cons, List.map_cons]
    dsimp only
    split
    · exact .cons hv (RepK.upd hv r)
    · exact .cons h (RepK.upd hv r)
theorem RepK.snoc {k : Key} {d : RT.D} (hv : Rep C F v d) : ∀ {kvs : List (Key × V)} {ds : List (Key × RT.D)}, RepK C F kvs ds → RepK C F (kvs ++ [(k, v)]) (ds ++ [(k, d)])
  | _, _, .nil => .cons hv .nil
  | _, _, .cons h r => .cons h (RepK.snoc hv r)
theorem RepK.put {k : Key} {d : RT.D} {kvs : List (Key × V)} {ds : List (Key × RT.D)} (h : RepK C F kvs ds) (hv : Rep C F v d) : RepK C F (L2.putK kvs k v) (RT.putK ds k d) := by
  unfold L2.putK RT.putK
  rw [RepK.anyB h]
  split
  · exact RepK.upd hv h
  · exact RepK.snoc hv h

theorem RepK.len' : ∀ {vs : List (Key × V)} {ds : List (Key × RT.D)}, RepK C F vs ds → vs.length = ds.length
  | _, _, .nil => rfl
  | _, _, .cons _ r => by simp [RepK.len' r]
theorem key_at {d : RT.D} {k : Key} (h : Insp C F H v d) (q : keyD d = some k) : v = kV k := by
  cases d <;> simp [keyD] at q
  · subst q; cases h with | rep h => cases h; rfl
  · subst q; cases h with | rep h => cases h; rfl
theorem Rel.growO {D0 : Addr} {l l' : HO} (r : Rel C (upd G D0 l) (Rs.add D0) F H σ e) : Rel C (upd G D0 l') (Rs.add D0) F (upd H D0 l') σ e := by
  have f0 : F D0 = none := (r.rs D0 (.inr rfl)).1
  have hD : H D0 = some l := r.gh _ _ upd_same
  refine ⟨r.len, r.fh.updR f0, fun a u h => ?_, fun a h => ⟨(r.rs a h).1, ?_⟩, fun i d h => r.sh i d h, fun i fl d h hf => ?_, r.inj⟩
  · by_cases q : a = D0
    · subst q; rw [upd_same] at h ⊢; exact h
    · rw [upd_ne q] at h ⊢
      exact r.gh a u (by rw [upd_ne q]; exact h)
  · by_cases q : a = D0
    · subst q; rw [upd_same]; exact nofun
    · rw [upd_ne q]; exact (r.rs a h).2
  · obtain ⟨p, h1, h2, h3, h4, c⟩ := r.ow i fl d h hf
    have np : p ≠ D0 := fun z => h3 (.inr z)
    rw [upd_ne np] at h4
    refine ⟨p, h1, h2, h3, by rw [upd_ne np]; exact h4, ?_⟩
    cases c with
    | l c => exact .l (c.at (upd_ne np))
    | @obj dx vs c fs z zk a b g d f k gg =>
      have nd : dx ≠ D0 := fun z => f (.inr z)
      rw [upd_ne nd] at d
      exact .obj z zk (a.at (upd_ne np) (upd_ne nd)) b g (by rw [upd_ne nd]; exact d) f k gg
theorem Rel.beginO {D0 : Addr} (o : HO) (r : Rel C G Rs F H σ e) (n : H D0 = none) : Rel C (upd G D0 o) (Rs.add D0) F (upd H D0 o) σ e := by
  obtain ⟨f0, n0, g0, no⟩ := r.fresh n
  refine ⟨r.len, r.fh.updR f0, r.gh.upd2, fun a h => ?_, fun i d h => r.sh i d h, fun i fl d h hf => ?_, r.inj⟩
  · rcases h with h | rfl
    · have : a ≠ D0 := by rintro rfl; exact n0 h
      rw [upd_ne this]
      exact r.rs a h
    · exact ⟨f0, by rw [upd_same]; exact nofun⟩
  · obtain ⟨p, h1, h2, h3, h4, c⟩ := r.ow i fl d h hf
    have np : p ≠ D0 := by rintro rfl; exact c.there n
    refine ⟨p, h1, h2, fun z => Or.elim z h3 np, by rw [upd_ne np]; exact h4, ?_⟩
    cases c with
    | l c => exact .l (c.at (upd_ne np))
    | @obj dx vs c fs z zk a b g d f k gg =>
      have nd : dx ≠ D0 := by rintro rfl; exact a.there.2 n
      exact .obj z zk (a.at (upd_ne np) (upd_ne nd)) b g (by rw [upd_ne nd]; exact d) (fun z => Or.elim z f nd) k gg
theorem Rel.endsO {D0 : Addr} {l : HO} (r : Rel C (upd G D0 l) (Rs.add D0) F H σ e) (g0 : G D0 = none) : Rel C G Rs F H σ e := by
  refine ⟨r.len, r.fh, fun a u h => r.gh a u ?_, fun a h => r.rs a (.inl h), r.sh, fun i fl d h hf => ?_, r.inj⟩
  · rw [upd_ne (ne_of_none h g0)]; exact h
  · obtain ⟨p, h1, h2, h3, h4, c⟩ := r.ow i fl d h hf
    have np : p ≠ D0 := fun z => h3 (.inr z)
    rw [upd_ne np] at h4
    refine ⟨p, h1, h2, fun z => h3 (.inl z), h4, ?_⟩
    cases c with
    | l c => exact .l c
    | @obj dx vs c fs z zk a b g d f k gg =>
      have nd : dx ≠ D0 := fun z => f (.inr z)
      rw [upd_ne nd] at d
      exact .obj z zk a b g d (fun z => f (.inl z)) k gg

def turnD (mt : Nv → R Bool) (mk me : Nv → R VL) (e2 : Nv) : R (Option (Key × RT.D)) := (mt e2).bind fun b e3 => if b then (mk e3).bind fun vk e4 => (match (lkv e4 vk).bind keyD with
  | some q => (me e4).bind fun v e5 => (match fzv e5 v with
    | some (d, e6) => .ok (some (q, d)) e6
    | none => .bad)
  | none => .bad) else .ok none e3
def dcM (vs : List Nat) (t : T) (mi : Nv → R (List RT.D × List Nat)) (mt : Nv → R Bool) (mk me : Nv → R VL) (e : Nv) : R VL := (mi e).bind fun p e1 => if noOwn e1 vs then
  (dcGo vs t (turnD mt mk me) p.1 [] (wipeN e1 vs)).bind fun ds e6 => (match unlock (backN e1 e6 vs) p.2 with
    | some e7 => .ok (.fr (.dct ds)) e7
    | none => .bad)
  else .bad
theorem dc_run {vs : List Nat} {t : T} {mi : Nv → R (List D × List Nat)} {mt : Nv → R Bool} {mk me : Nv → R VL} {Q : VK} (kt : KpE mt) (kk : KpE mk) (ke : KpE me) (hsub : ∀ i ∈ tSl t, i ∈ vs) (hpl : tPl t = true)
    (h : tE C W (dcM vs t mi mt mk me) σ H Q) : tDc (tI C W mi) (gT C t) (tG C (fun _ _ _ _ => False) vEq mt) (tE C (fun _ _ _ _ => False) mk) (tE C (fun _ _ _ _ => False) me) vs σ H Q := by
  obtain ⟨G, Rs, F, n, r, q⟩ := h
  refine ⟨G, Rs, F, n, r, q.bnd fun p e1 J F1 H1 _ s1 r1 hW q1 => ?_⟩
  obtain ⟨its, ls⟩ := p
  dsimp only at q1
  have hW : WkD C F1 σ e1 J its := hW
  split at q1
  case isFalse => exact q1.elim
  rename_i hown
  intro D0 hD0
  have g0 : G D0 = none := (r1.fresh hD0).2.2.1
  generalize hR : dcGo vs t (turnD mt mk me) its [] (wipeN e1 vs) = Rr at q1
  refine ⟨fun i m H' => m = its.length - i ∧ i ≤ its.length ∧ ∃ F' e acc accV, Sub F1 F' ∧ Rel C (upd G D0 (.dK accV)) (Rs.add D0) F' H' (L2.wipe σ vs) e ∧ RepK C F' accV acc ∧ dcGo vs t (turnD mt mk me) (its.drop i) acc e = Rr ∧ LkE e1 e,
    ⟨its.length, by simp, Nat.zero_le _, F1, wipeN e1 vs, [], [], Sub.refl, (r1.beginO (.dK []) hD0).wipe vs, .nil, by rw [List.drop_zero]; exact hR, LkE.refl.wipe hown⟩, ?_⟩
  rintro i m H2 ⟨rfl, hi, F2, e2, acc, accV, s2, r2, ra, hgo, lke⟩
  have lkS : LkSame σ e1 (L2.wipe σ vs) e2 := lke.wipeS hown
  obtain ⟨hg, hst⟩ := hW _ _ F2 H2 (L2.wipe σ vs) e2 i s2 r2 lkS
  by_cases hlt : i < its.length
  case neg =>
    have hi' : i = its.length := by omega
    refine .inl ⟨hst hi', ?_⟩
    rw [hi', List.drop_length] at hgo
    rw [← hgo] at q1
    simp only [dcGo, R.bind] at q1
    split at q1
    · rename_i e7 hu
      have f0 : F2 D0 = none := (r2.rs D0 (.inr rfl)).1
      have hDD : H2 D0 = some (.dK accV) := r2.gh _ _ upd_same
      have r3 := r2.endsO g0
      have r4 := Rel.back r1 s2 hown r3
      have r5 := unlock_ok r4 hu
      refine q1 (.ref D0) F2 H2 s2 r5 ⟨D0, rfl, f0, (r1.fresh hD0).2.1, g0, .dct hDD ra, fun j fl d' hj hf z => ?_⟩
      obtain ⟨p, h1, _⟩ := r5.ow j fl d' hj hf
      rw [z] at h1; cases h1
      -- a slot's own list is not the new one
      have : ∃ fl0 d0, fl0 ≠ Fl.sh ∧ (backN e1 e2 vs)[j]? = some (some (fl0, d0)) := by
        have gen : ∀ {ls : List Nat} {ea eb : Nv}, unlock ea ls = some eb → eb[j]? = some (some (fl, d')) → fl ≠ .sh → ∃ fl0 d0, fl0 ≠ Fl.sh ∧ ea[j]? = some (some (fl0, d0)) := by
          intro ls
          induction ls with
          | nil => intro ea eb hu hj hf; cases hu; exact ⟨fl, d', hf, hj⟩
          | cons l ls ih =>
            intro ea eb hu hj hf
            simp only [unlock] at hu
            split at hu
            · rename_i d0 hd0
              obtain ⟨fl1, d1, hf1, h1⟩ := ih hu hj hf
              by_cases ql : l = j
              · subst ql; exact ⟨.lk, d0, by decide, hd0⟩
              · rw [List.getElem?_set_ne ql] at h1
                exact ⟨fl1, d1, hf1, h1⟩
            · cases hu
        exact gen hu hj hf
      obtain ⟨fl0, d0, hf0, hj0⟩ := this
      rw [backN_get] at hj0
      by_cases qv : j ∈ vs
      · rw [if_pos qv] at hj0
        cases he : e2[j]? with
        | none => rw [he] at hj0; cases hj0
        | some o =>
          rw [he] at hj0
          have hj0 : (e1[j]?).getD none = some (fl0, d0) := Option.some.inj hj0
          rcases noOwn_at hown qv with w | ⟨d'', w⟩
          · rw [w] at hj0; cases hj0
          · rw [w] at hj0; cases hj0; exact hf0 rfl
      · rw [if_neg qv] at hj0
        obtain ⟨p', a1, _, a3, _⟩ := r2.ow j fl0 d0 hj0 hf0
        rw [wipe_get, if_neg qv, z] at a1
        cases a1
        exact a3 (.inr rfl)
    · exact q1.elim
  case pos =>
    obtain ⟨hgo1, hy⟩ := hg its[i] (List.getElem?_eq_getElem hlt)
    refine .inr ⟨hgo1, fun H' => ∃ F' e acc accV, Sub F1 F' ∧ Rel C (upd G D0 (.dK accV)) (Rs.add D0) F' H' (L2.wipe σ vs) e ∧ RepK C F' accV acc ∧ dcGo vs t (turnD mt mk me) (its.drop (i + 1)) acc e = Rr ∧ LkE e1 e,
      fun H' hN => ⟨its.length - (i + 1), by omega, rfl, hlt, hN⟩, fun x H3 hyl => ?_⟩
    obtain ⟨F3, s3, r3, hx⟩ := hy x H3 hyl
    rw [List.drop_eq_getElem_cons hlt] at hgo
    simp only [dcGo] at hgo
    split at hgo
    case h_2 => rw [← hgo] at q1; exact q1.elim
    rename_i e3 he3
    refine ⟨_, _, F3, e2, e3, its[i], r3, hx, he3, fun σ4 H4 st4 r4 => ?_⟩
    have hw4 : L2.wipe σ4 vs = L2.wipe (L2.wipe σ vs) vs := wipe_same st4.1 fun j hj => (st4.2 j fun z => hj (hsub j z)).1
    rw [wipe_idem] at hw4
    refine ⟨hw4, _, _, F3, e3, r4, ?_⟩
    have lk3 : LkE e1 e3 := lke.trans (setT_lk t _ _ _ he3)
    -- the turn
    unfold turnD at hgo
    cases hmt : mt e3 with
    | bad => rw [hmt] at hgo; simp only [R.bind] at hgo; rw [← hgo] at q1; exact q1.elim
    | exc c d e => rw [hmt] at hgo; simp only [R.bind] at hgo; rw [← hgo] at q1; exact q1.elim
    | ok b4 e4 =>
      rw [hmt] at hgo
      simp only [R.bind] at hgo
      intro b5 F5 H5 s5 r5 hb5
      obtain rfl : b5 = b4 := hb5
      have lk4 : LkE e1 e4 := lk3.trans (kt _ _ _ hmt)
      cases b5 with
      | false =>
        rw [if_neg Bool.false_ne_true] at hgo ⊢
        refine ⟨F5, wipeN e4 vs, acc, accV, s2.trans (s3.trans s5), by rw [← hw4]; exact r5.wipe vs, ra.up (s3.trans s5), hgo, lk4.wipe hown⟩
      | true =>
        rw [if_pos rfl] at hgo ⊢
        refine ⟨_, _, F5, e4, r5, ?_⟩
        cases hmk : mk e4 with
        | bad => rw [hmk] at hgo; simp only [R.bind] at hgo; rw [← hgo] at q1; exact q1.elim
        | exc c d e => rw [hmk] at hgo; simp only [R.bind] at hgo; rw [← hgo] at q1; exact q1.elim
        | ok vk ek =>
          rw [hmk] at hgo
          simp only [R.bind] at hgo
          intro yk Fk Hk sk rk hyk
          have hyk : VRep C _ _ Fk Hk σ4 ek yk vk := hyk
          cases hq : (lkv ek vk).bind keyD with
          | none => rw [hq] at hgo; simp only at hgo; rw [← hgo] at q1; exact q1.elim
          | some kq =>
            rw [hq] at hgo
            simp only at hgo
            obtain ⟨dk, hdk, hkd⟩ := Option.bind_eq_some_iff.mp hq
            have eyk : yk = kV kq := key_at (rk.look hyk hdk) hkd
            refine ⟨_, _, Fk, ek, rk, ?_⟩
            cases hme : me ek with
            | bad => rw [hme] at hgo; simp only [R.bind] at hgo; rw [← hgo] at q1; exact q1.elim
            | exc c d e => rw [hme] at hgo; simp only [R.bind] at hgo; rw [← hgo] at q1; exact q1.elim
            | ok v6 e6 =>
              rw [hme] at hgo
              simp only [R.bind] at hgo
              intro y F6 H6 s6 r6 hy6
              have hy6 : VRep C _ _ F6 H6 σ4 e6 y v6 := hy6
              cases hz : fzv e6 v6 with
              | none => rw [hz] at hgo; simp only at hgo; rw [← hgo] at q1; exact q1.elim
              | some de =>
                obtain ⟨d7, e7⟩ := de
                rw [hz] at hgo
                simp only at hgo
                obtain ⟨F7, s7, r7, h7⟩ := hy6.frozen r6 hz
                split at hgo
                case isFalse => rw [← hgo] at q1; exact q1.elim
                rename_i hlen
                have sA := s3.trans (s5.trans (sk.trans (s6.trans s7)))
                refine ⟨accV, kq, eyk, r7.gh _ _ upd_same, by rw [ra.len', ← lim_eq]; exact hlen, ?_⟩
                refine ⟨F7, wipeN e7 vs, RT.putK acc kq d7, L2.putK accV kq y, s2.trans sA, ?_, (ra.up sA).put h7, hgo, (lk4.trans ((kk _ _ _ hmk).trans ((ke _ _ _ hme).trans (fzv_lk hz)))).wipe hown⟩
                rw [← hw4]
                exact (r7.growO).wipe vs

theorem e_dc {vs : List Nat} {t : T} {mi : Nv → R (List RT.D × List Nat)} {mt : Nv → R Bool} {mk me : Nv → R VL} {kx vx : Expr} {ifs : List Expr} {scope : Scope} {own : List (Str × Nat)} (ok : XOk C W X) (kt : KpE mt) (kk : KpE mk) (ke : KpE me) (hsub : ∀ i ∈ tSl t, i ∈ own.map (·.2)) (hpl : tPl t = true)
    (hi : PI X tg iter (tI C W mi)) (bk : BlkOk X.N X.env.scope scope own) (hg : ∀ (s : Shared) (H : Hp) (C' : Addr) (cl : List (Str × Addr)) (fp : List Addr), PG (X.blk s H scope (compEnvC scope cl C' X.env) fp) tg (gT C t))
    (ht : ∀ (s : Shared) (H : Hp) (C' : Addr) (cl : List (Str × Addr)) (fp : List Addr), PTs (X.blk s H scope (compEnvC scope cl C' X.env) fp) ifs (tG C (fun _ _ _ _ => False) vEq mt))
    (hk : ∀ (s : Shared) (H : Hp) (C' : Addr) (cl : List (Str × Addr)) (fp : List Addr), PE (X.blk s H scope (compEnvC scope cl C' X.env) fp) kx (tE C (fun _ _ _ _ => False) mk))
    (he : ∀ (s : Shared) (H : Hp) (C' : Addr) (cl : List (Str × Addr)) (fp : List Addr), PE (X.blk s H scope (compEnvC scope cl C' X.env) fp) vx (tE C (fun _ _ _ _ => False) me)) (hs : ∀ x, foldedSetIterable iter X.env x = pure x) :
    PE X (.DictComp kx vx [⟨tg, iter, ifs, 0⟩] scope pos) (tE C W (dcM (own.map (·.2)) t mi mt mk me)) :=
  PE_imp (pe_dc ok.calm ok.nd hi bk hg ht hk he hs) fun σ H Q h => dc_run kt kk ke hsub hpl h
/-- name = {..} on one line, the name a local -/
theorem ps_setDc {i : Nat} {y : Str} {py : Pos} {kx vx tg iter : Expr} {ifs : List Expr} {scope : Scope} {own : List (Str × Nat)} {pos spos : Pos} {wi : TI} {g : TG} {tt : TT} {tk tv : TE} (hc : X.calm = true) (hN : X.N.Nodup) (hy : X.N[i]? = some y) (hyl : X.env.scope.names.lookup y = some .local)
    (hsw : swapsWith (.DictComp kx vx [⟨tg, iter, ifs, 0⟩] scope pos) (some (.Name y py)) spos.line X.env = pure true) (hi : PI X tg iter wi) (ok : BlkOk X.N X.env.scope scope own)
    (hg : ∀ (s : Shared) (H : Hp) (C : Addr) (cl : List (Str × Addr)) (fp : List Addr), PG (X.blk s H scope (compEnvC scope cl C X.env) fp) tg g) (ht : ∀ (s : Shared) (H : Hp) (C : Addr) (cl : List (Str × Addr)) (fp : List Addr), PTs (X.blk s H scope (compEnvC scope cl C X.env) fp) ifs tt)
    (hk : ∀ (s : Shared) (H : Hp) (C : Addr) (cl : List (Str × Addr)) (fp : List Addr), PE (X.blk s H scope (compEnvC scope cl C X.env) fp) kx tk)
    (he : ∀ (s : Shared) (H : Hp) (C : Addr) (cl : List (Str × Addr)) (fp : List Addr), PE (X.blk s H scope (compEnvC scope cl C X.env) fp) vx tv) (hs : ∀ x, foldedSetIterable iter X.env x = pure x) :
    PS X (.Assign [.Name y py] (.DictComp kx vx [⟨tg, iter, ifs, 0⟩] scope pos) spos) (tAsg (tDc wi g tt tk tv (own.map (·.2))) (gName i)) := by
  refine ⟨fun pins s σ H D I h => ?_⟩
  rw [exec_Assign_Name_used _ _ _ _ hsw]
  refine wpAny_bind (wpAny_standAt (wpAny_bind ?_))
  show wpAny _ X.A (do let _ ← comprehension (.DictComp kx vx [⟨tg, iter, ifs, 0⟩] scope pos) scope X.env (firstIterPos [⟨tg, iter, ifs, 0⟩] pos) newDict false (eval iter X.env) (some (assign (.Name y py) X.env))) _ _ s
  have h : tDc wi g tt tk tv (own.map (·.2)) σ H (fun x H1 => gName i x σ H1 D.nx) := h
  refine wpAny_bind (thn (dc_core (Qf := fun _ s' => SP X pins D .next s') hc hN I hi ok hg ht hk he hs h fun L C s' m H' I' q hn f => ?_) fun _ s' hq => wpAny_pure (wpAny_pure hq))
  show wpAny _ _ (assign (.Name y py) X.env (.ref L)) _ _ _
  refine wpAny_assign_Name (store_ok2 (v := V.ref L) I' hN hy (.inl hyl) rfl (fun s2 I2 ⟨a, sb, ha⟩ => ?_) (.inr hyl))
  obtain ⟨f0, f1, f2, f3, f4, f5⟩ := f
  have haC : C ≠ a := by
    rcases ha with z | z
    · rw [z]; exact f1
    · exact fun e => f4 y a z e.symm
  refine ⟨m, hn.sameBut sb haC, fun h3 sb3 => ?_⟩
  exact ⟨_, H', I2.turned (t' := s2.toks) (fun b o hb e => (sb3.2 b hb).trans e) f0 f1 f3 f4 f5, q⟩
end
end RT

set_option Elab.async false
set_option linter.all false
set_option maxRecDepth 100000
/-! CoreP: statements. -/
namespace RT
open PySem PySem.Spec PyProof.Rows L2

def AfterS (C : Ct) (W : WX) (G : Hp) (Rs : Rv) (σ0 : L2.St) (F : Hp) (e0 : Nv) (D : Ends) : SR → Prop
  | .nx e => ∀ σ F' H', Sub F F' → Rel C G Rs F' H' σ e → LkSame σ0 e0 σ e → D.nx σ H'
  | .bk e => ∀ σ F' H', Sub F F' → Rel C G Rs F' H' σ e → LkSame σ0 e0 σ e → D.bk σ H'
  | .ct e => ∀ σ F' H', Sub F F' → Rel C G Rs F' H' σ e → LkSame σ0 e0 σ e → D.ct σ H'
  | .rt v e => ∀ σ F' H' x, Sub F F' → Rel C G Rs F' H' σ e → LkSame σ0 e0 σ e → VRep C G Rs F' H' σ e x v → D.rt x H'
  | .exc c d e => ∀ σ F' H' cls x, Sub F F' → Rel C G Rs F' H' σ e → ExR C F' H' c d cls x → W cls x σ H'
  | .bad => False
def tSM (C : Ct) (W : WX) (m : Nv → SR) : TS := fun D σ H => ∃ G Rs F e, Rel C G Rs F H σ e ∧ AfterS C W G Rs σ F e D (m e)
/-- the context of a def's body -/
structure SOk (C : Ct) (W : WX) (X : Cx) : Prop extends XOk C W X where
  hp : PassesOwn (model X.prog X.w) X.A X.env X.xe
section
variable {C : Ct} {W : WX} {X : Cx} {G : Hp} {Rs : Rv} {F F' F1 H H' : Hp} {σ σ' σ1 : L2.St} {e e' e0 e1 : Nv} {v : V} {a b c tg iter : Expr} {es : List Expr} {pos p0 : Pos} {De : Ends} {α β γ δ : Type} {vr1 : VR γ δ} {Q1 : δ → Hp → Prop}
theorem AfterS.mono {r : SR} (s : Sub F F1) (h : AfterS C W G Rs σ F e0 De r) : AfterS C W G Rs σ F1 e0 De r := by
  cases r with
  | nx e => exact fun σ F' H' s' => h σ F' H' (s.trans s')
  | bk e => exact fun σ F' H' s' => h σ F' H' (s.trans s')
  | ct e => exact fun σ F' H' s' => h σ F' H' (s.trans s')
  | rt v e => exact fun σ F' H' x s' => h σ F' H' x (s.trans s')
  | exc c d e => exact fun σ F' H' cls x s' => h σ F' H' cls x (s.trans s')
  | bad => exact h
theorem AfterS.step {r : SR} (l : LkSame σ e0 σ1 e1) (h : AfterS C W G Rs σ F e0 De r) : AfterS C W G Rs σ1 F e1 De r := by
  cases r with
  | nx e => exact fun σ F' H' s r l' => h σ F' H' s r (l.trans l')
  | bk e => exact fun σ F' H' s r l' => h σ F' H' s r (l.trans l')
  | ct e => exact fun σ F' H' s r l' => h σ F' H' s r (l.trans l')
  | rt v e => exact fun σ F' H' x s r l' => h σ F' H' x s r (l.trans l')
  | exc c d e => exact h
  | bad => exact h
theorem AfterS.bnd {r : R γ} {f : γ → Nv → SR} (h : AfterS C W G Rs σ F e0 De (r.toS f)) (kl : ∀ a e1, r = .ok a e1 → LkE e0 e1)
    (k : ∀ a e1 v F1 H1, r = .ok a e1 → Sub F F1 → Rel C G Rs F1 H1 σ e1 → vr1 G Rs σ F1 H1 e1 v a → AfterS C W G Rs σ F1 e1 De (f a e1) → Q1 v H1) : After C W G Rs σ F vr1 Q1 r := by
  cases r with
  | ok a e => exact fun v F' H' s r1 hv => k a e v F' H' rfl s r1 hv (AfterS.step (kl a e rfl).same (AfterS.mono s h))
  | exc c d e => exact fun F' H' cls x s r1 hx => h σ F' H' cls x s r1 hx
  | bad => exact h
theorem PS_imp {s : Stmt} {t t' : TS} (h : PS X s t) (k : ∀ D σ H, t' D σ H → t D σ H) : PS X s t' := ⟨fun pins s σ H D I q => h.run pins s σ H D I (k D σ H q)⟩
theorem PSs_imp {s : List Stmt} {t t' : TS} (h : PSs X s t) (k : ∀ D σ H, t' D σ H → t D σ H) : PSs X s t' := ⟨fun pins s σ H D I q => h.run pins s σ H D I (k D σ H q)⟩

/-! ### blocks -/
theorem ss_nil : PSs X [] (tSM C W fun e => .nx e) := PSs_imp pss_nil fun D σ H ⟨G, Rs, F, e, r, q⟩ => q σ F H Sub.refl r LkSame.refl
theorem ss_cons {st : Stmt} {rest : List Stmt} {m1 m2 : Nv → SR} (h1 : PS X st (tSM C W m1)) (h2 : PSs X rest (tSM C W m2)) : PSs X (st :: rest) (tSM C W fun e => (m1 e).bind m2) :=
  PSs_imp (pss_cons h1 h2) fun D σ H ⟨G, Rs, F, e, r, q⟩ => ⟨G, Rs, F, e, r, by
    have q : AfterS C W G Rs σ F e D ((m1 e).bind m2) := q
    cases hm : m1 e with
    | nx e1 =>
      rw [hm] at q
      exact fun σ' F' H' s r' l => ⟨G, Rs, F', e1, r', AfterS.step l (AfterS.mono s q)⟩
    | bk e1 => rw [hm] at q; exact q
    | ct e1 => rw [hm] at q; exact q
    | rt v e1 => rw [hm] at q; exact q
    | exc c d e1 => rw [hm] at q; exact q
    | bad => rw [hm] at q; exact q⟩
theorem s_pass : PS X (.Pass pos) (tSM C W fun e => .nx e) := PS_imp ps_pass fun D σ H ⟨G, Rs, F, e, r, q⟩ => q σ F H Sub.refl r LkSame.refl
theorem s_brk : PS X (.Break pos) (tSM C W fun e => .bk e) := PS_imp ps_break fun D σ H ⟨G, Rs, F, e, r, q⟩ => q σ F H Sub.refl r LkSame.refl
theorem s_cnt : PS X (.Continue pos) (tSM C W fun e => .ct e) := PS_imp ps_continue fun D σ H ⟨G, Rs, F, e, r, q⟩ => q σ F H Sub.refl r LkSame.refl
theorem s_nvr {st : Stmt} : PS X st (tSM C W fun _ => .bad) := PS_imp ps_never fun D σ H ⟨G, Rs, F, e, r, q⟩ => q
theorem s_doc {x : Str} {j : Nat} {p1 : Pos} : PS X (.Expr (.Constant (.str x) j p1) pos) (tSM C W fun e => .nx e) := PS_imp ps_doc fun D σ H ⟨G, Rs, F, e, r, q⟩ => q σ F H Sub.refl r LkSame.refl
theorem noComp_ok {x : Expr} {o : Option Expr} {l : Nat} {env : Env} (h : noComp x = true) : swapsWith x o l env = pure false := by
  cases x <;> first | rfl | cases h
theorem s_ex {m : Nv → R VL} (hn : noComp a = true) (km : KpE m) (ha : PE X a (tE C W m)) : PS X (.Expr a pos) (tSM C W fun n => (m n).toS fun _ e1 => .nx e1) :=
  PS_imp (ps_expr ha (noComp_ok hn)) fun D σ H ⟨G, Rs, F, e, r, q⟩ => ⟨G, Rs, F, e, r, q.bnd (fun a e1 h => km _ _ _ h) fun v e1 x F1 H1 _ s1 r1 h1 q1 => q1 σ F1 H1 Sub.refl r1 LkSame.refl⟩
theorem s_ret {m : Nv → R VL} (km : KpE m) (ha : PE X a (tE C W m)) : PS X (.Return (some a) pos) (tSM C W fun n => (m n).toS fun v e1 => .rt v e1) :=
  PS_imp (ps_ret ha) fun D σ H ⟨G, Rs, F, e, r, q⟩ => ⟨G, Rs, F, e, r, q.bnd (fun a e1 h => km _ _ _ h) fun v e1 x F1 H1 _ s1 r1 h1 q1 => q1 σ F1 H1 x Sub.refl r1 LkSame.refl h1⟩
theorem s_retN : PS X (.Return none pos) (tSM C W fun e => .rt (.fz .non) e) := PS_imp ps_retN fun D σ H ⟨G, Rs, F, e, r, q⟩ => q σ F H .non Sub.refl r LkSame.refl .non
theorem s_if {x y : List Stmt} {m : Nv → R VL} {ma mb : Nv → SR} (km : KpE m) (hc : PT X c (tB C W m)) (ha : PSs X x (tSM C W ma)) (hb : PSs X y (tSM C W mb)) :
    PS X (.If c x y pos) (tSM C W fun n => (m n).toS fun v e1 => (match boolV e1 v with
      | some true => ma e1
      | some false => mb e1
      | none => .bad)) :=
  PS_imp (ps_if hc ha hb) fun D σ H ⟨G, Rs, F, e, r, q⟩ => ⟨G, Rs, F, e, r, by
    have q' : AfterS C W G Rs σ F e D ((tst m e).toS fun b e1 => if b = true then ma e1 else mb e1) := by
      refine Eq.mp (congrArg _ ?_) q
      show (m e).toS _ = _
      unfold tst
      cases m e with
      | ok v e1 =>
        simp only [R.toS, R.bind]
        cases boolV e1 v with
        | none => rfl
        | some b => cases b <;> rfl
      | exc c d e1 => rfl
      | bad => rfl
    refine q'.bnd (fun b e1 h => ?_) fun b e1 b' F1 H1 _ s1 r1 h1 q1 => ?_
    · unfold tst at h
      cases hm : m e with
      | ok v e2 =>
        rw [hm] at h
        simp only [R.bind] at h
        cases hb : boolV e2 v with
        | none => rw [hb] at h; cases h
        | some b' => rw [hb] at h; cases h; exact km _ _ _ hm
      | exc c d e2 => rw [hm] at h; cases h
      | bad => rw [hm] at h; cases h
    · obtain rfl : b' = b := h1
      cases b' with
      | true => rw [if_pos rfl] at q1 ⊢; exact ⟨G, Rs, F1, e1, r1, q1⟩
      | false => rw [if_neg Bool.false_ne_true] at q1 ⊢; exact ⟨G, Rs, F1, e1, r1, q1⟩⟩
theorem tst_lk {m : Nv → R VL} (km : KpE m) : KpE (tst m) := fun e b e1 h => by
  unfold tst at h
  cases hm : m e with
  | ok v e2 =>
    rw [hm] at h
    simp only [R.bind] at h
    cases hb : boolV e2 v with
    | none => rw [hb] at h; cases h
    | some b' => rw [hb] at h; cases h; exact km _ _ _ hm
  | exc c d e2 => rw [hm] at h; cases h
  | bad => rw [hm] at h; cases h

/-! ### assignments -/
theorem Rel.putOw {i : Nat} {d : D} {p : Addr} {o : Slot} (r : Rel C G Rs F H σ e) (hi : e[i]? = some o) (f0 : F p = none) (n0 : ¬ Rs p) (g0 : G p = none) (cc : ConL C F H p d)
    (no : ∀ (j : Nat) (fl : Fl) (d' : RT.D), i ≠ j → e[j]? = some (some (fl, d')) → fl ≠ Fl.sh → σ[j]? ≠ some (some (V.ref p))) : Rel C G Rs F H (σ.set i (some (.ref p))) (e.set i (some (.ow, d))) := by
  obtain ⟨hil, _⟩ := List.getElem?_eq_some_iff.mp hi
  have hsl : i < σ.length := by rw [r.len]; exact hil
  refine ⟨by rw [List.length_set, List.length_set]; exact r.len, r.fh, r.gh, r.rs, fun j d' hj => ?_, fun j f d' hj hf => ?_, fun j k fi fj di dj q hjk a1 b1 a2 b2 x1 x2 => ?_⟩
  · by_cases z : i = j
    · subst z; rw [List.getElem?_set_self hil] at hj; cases hj
    · rw [List.getElem?_set_ne z] at hj ⊢
      exact r.sh j d' hj
  · by_cases z : i = j
    · subst z; rw [List.getElem?_set_self hil] at hj; cases hj
      exact ⟨p, List.getElem?_set_self hsl, f0, n0, g0, .l cc⟩
    · rw [List.getElem?_set_ne z] at hj ⊢
      exact r.ow j f d' hj hf
  · by_cases z : i = j
    · subst z
      rw [List.getElem?_set_self hsl] at x1; cases x1
      rw [List.getElem?_set_ne hjk] at a2 x2
      exact no k fj dj hjk a2 b2 x2
    · by_cases z2 : i = k
      · subst z2
        rw [List.getElem?_set_self hsl] at x2; cases x2
        rw [List.getElem?_set_ne z] at a1 x1
        exact no j fi di z a1 b1 x1
      · rw [List.getElem?_set_ne z] at a1 x1
        rw [List.getElem?_set_ne z2] at a2 x2
        exact r.inj j k fi fj di dj q hjk a1 b1 a2 b2 x1 x2
theorem set_lkSame {i : Nat} {o : Slot} {x : Option V} (h : ∀ d, e[i]? ≠ some (some (Fl.lk, d))) (h' : ∀ d, e[i]? ≠ some (some (Fl.io, d))) : LkSame σ e (σ.set i x) (e.set i o) := by
  refine ⟨fun l d hl => ?_, fun l d hl => ?_⟩
  · have : i ≠ l := by
      rintro rfl
      exact h d hl
    rw [List.getElem?_set_ne this, List.getElem?_set_ne this]
    exact ⟨hl, rfl⟩
  · have : i ≠ l := by
      rintro rfl
      exact h' d hl
    rw [List.getElem?_set_ne this, List.getElem?_set_ne this]
    exact ⟨⟨d, hl⟩, rfl⟩
theorem setV_ok {i : Nat} {vl : VL} (r : Rel C G Rs F H σ e) (h : VRep C G Rs F H σ e v vl) (hs : setV i vl e = some e') : ∃ F', Sub F F' ∧ Rel C G Rs F' H (σ.set i (some v)) e' ∧ LkSame σ e (σ.set i (some v)) e' := by
  cases vl with
  | fr d =>
    unfold setV at hs
    dsimp only at hs
    split at hs
    · cases hs
    · cases hs
    · rename_i o h1 h2 h3
      cases hs
      obtain ⟨p, rfl, f0, n0, g0, c, no⟩ := h
      exact ⟨F, Sub.refl, r.putOw h3 f0 n0 g0 c fun j fl d' _ => no j fl d', set_lkSame (fun d' z => by rw [h3] at z; cases z; exact h2 d' rfl) fun d' z => by rw [h3] at z; cases z; exact h1 d' rfl⟩
    · cases hs
  | fz d =>
    simp only [setV, fzv] at hs
    obtain ⟨⟨o, ho⟩, rfl, hk, hk2⟩ := setT_v hs
    exact ⟨F, Sub.refl, r.put ho h, set_lkSame hk hk2⟩
  | pk j =>
    simp only [setV] at hs
    split at hs
    · rename_i d e1 hz
      obtain ⟨F1, s1, r1, h1⟩ := h.frozen r hz
      obtain ⟨⟨o, ho⟩, rfl, hk, hk2⟩ := setT_v hs
      exact ⟨F1, s1, r1.put ho h1, LkSame.trans (σ1 := σ) (fzv_lk hz).same (set_lkSame hk hk2)⟩
    · cases hs
theorem set_imp {i : Nat} {m : Nv → R VL} (km : KpE m) {D : Ends} (h : tSM C W (fun n => (m n).toS fun v e1 => sget (setV i v e1)) D σ H) : tAsg (tE C W m) (gName i) D σ H := by
  obtain ⟨G, Rs, F, e, r, q⟩ := h
  refine ⟨G, Rs, F, e, r, q.bnd (fun a e1 h => km _ _ _ h) fun v e1 x F1 H1 _ s1 r1 h1 q1 => ?_⟩
  cases hs : setV i v e1 with
  | none => rw [hs] at q1; exact q1.elim
  | some e2 =>
    rw [hs] at q1
    obtain ⟨F2, s2, r2, l2⟩ := setV_ok r1 h1 hs
    exact q1 _ F2 H1 s2 r2 l2
theorem s_set {i : Nat} {x : Str} {m : Nv → R VL} (ok : XOk C W X) (hi : X.N[i]? = some x) (hx : Loc X.env.scope x) (hf : X.fn x = true ∨ X.env.scope.names.lookup x = some .local) (hs : swapsWith a (some (.Name x p0)) pos.line X.env = pure false) (km : KpE m) (ha : PE X a (tE C W m)) :
    PS X (.Assign [.Name x p0] a pos) (tSM C W fun n => (m n).toS fun v e1 => sget (setV i v e1)) :=
  PS_imp (ps_set ok.nd hi hx ha hs hf) fun D σ H h => set_imp km h
theorem setT_ne {l : Nat} : ∀ (t : T) (d : RT.D) (e e' : Nv), setT t d e = some e' → ((∃ d0, e[l]? = some (some (Fl.lk, d0))) ∨ ∃ d0, e[l]? = some (some (Fl.io, d0))) → l ∉ tSl t
  | .v i, d, e, e', h, hl => by
    obtain ⟨_, _, h1, h2⟩ := setT_v h
    simp only [tSl, List.mem_singleton]
    rintro rfl
    rcases hl with ⟨d0, hl⟩ | ⟨d0, hl⟩
    · exact h1 d0 hl
    · exact h2 d0 hl
  | .fld i c k, d, e, e', h, hl => by simp [tSl]
  | .t ts, d, e, e', h, hl => by
    cases d <;> simp only [setT, reduceCtorEq] at h
    rename_i ds
    split at h
    · exact setTs_ne ts ds e e' h hl
    · cases h
where
  setTs_ne {l : Nat} : ∀ (ts : List T) (ds : List RT.D) (e e' : Nv), setT.setTs ts ds e = some e' → ((∃ d0, e[l]? = some (some (Fl.lk, d0))) ∨ ∃ d0, e[l]? = some (some (Fl.io, d0))) → l ∉ tSl.tSls ts
  | [], [], e, e', h, hl => by simp [tSl.tSls]
  | t :: ts, d :: ds, e, e', h, hl => by
    simp only [setT.setTs] at h
    split at h
    · rename_i e1 h1
      simp only [tSl.tSls, List.mem_append, not_or]
      refine ⟨setT_ne t d e e1 h1 hl, setTs_ne ts ds e1 e' h ?_⟩
      rcases hl with ⟨d0, hl⟩ | ⟨d0, hl⟩
      · exact .inl ⟨d0, (setT_lk t d e e1 h1).lk l d0 hl⟩
      · exact .inr ((setT_lk t d e e1 h1).io l d0 hl)
    · cases h
  | [], _ :: _, e, e', h, hl => by simp only [setT.setTs, reduceCtorEq] at h
  | _ :: _, [], e, e', h, hl => by simp only [setT.setTs, reduceCtorEq] at h
theorem setT_lkSame {t : T} {d : RT.D} (h : setT t d e = some e') (s : StSame (tSl t) σ σ' e e') : LkSame σ e σ' e' :=
  ⟨fun l d0 hl => ⟨(setT_lk t d e e' h).lk l d0 hl, (s.2 l (setT_ne t d e e' h (.inl ⟨d0, hl⟩))).1⟩, fun l d0 hl => ⟨(setT_lk t d e e' h).io l d0 hl, (s.2 l (setT_ne t d e e' h (.inr ⟨d0, hl⟩))).1⟩⟩
def notTup : Expr → Bool
  | .Tuple _ _ _ => false
  | _ => true
theorem s_setT {t : T} {m : Nv → R VL} (hs : swapsWithSole [tg] a pos.line X.env = pure false) (hw : swappedStores [tg] a X.env = pure none) (h1 : notStar tg = true) (km : KpE m) (ha : PE X a (tE C W m)) (hg : PG X tg (gT C t)) :
    PS X (.Assign [tg] a pos) (tSM C W fun n => (m n).toS fun v e1 => (match fzv e1 v with
      | some (d, e2) => sget (setT t d e2)
      | none => .bad)) :=
  PS_imp (ps_asg ha hg hs hw (by rw [assignEach_ns h1]; rfl)) fun D σ H ⟨G, Rs, F, e, r, q⟩ => ⟨G, Rs, F, e, r, q.bnd (fun a e1 h => km _ _ _ h) fun v e1 x F1 H1 _ s1 r1 h1 q1 => by
    cases hz : fzv e1 v with
    | none => rw [hz] at q1; exact q1.elim
    | some de =>
      obtain ⟨d, e2⟩ := de
      rw [hz] at q1
      dsimp only at q1
      obtain ⟨F2, s2, r2, h2⟩ := h1.frozen r1 hz
      cases hs : setT t d e2 with
      | none => rw [hs] at q1; exact q1.elim
      | some e3 =>
        rw [hs] at q1
        refine ⟨G, Rs, F2, e2, e3, d, r2, h2, hs, fun σ' H' st r' => ?_⟩
        exact q1 σ' F2 H' s2 r' (LkSame.trans (σ1 := σ) (fzv_lk hz).same (setT_lkSame hs st))⟩

/-! ### loops -/
theorem unlock_get {l : Nat} : ∀ {ls : List Nat} {e e' : Nv}, unlock e ls = some e' → l ∉ ls → e'[l]? = e[l]?
  | [], e, e', h, _ => by cases h; rfl
  | i :: ls, e, e', h, hl => by
    rw [List.mem_cons, not_or] at hl
    simp only [unlock] at h
    split at h
    · rw [unlock_get h hl.2, List.getElem?_set_ne (Ne.symm hl.1)]
    · cases h
/-- a source keeps what is locked, and locks what was not -/
def KpI (m : Nv → R (List RT.D × List Nat)) : Prop := ∀ e p e', m e = .ok p e' → LkE e e' ∧ ∀ l ∈ p.2, ∀ d, e[l]? ≠ some (some (Fl.lk, d)) ∧ e[l]? ≠ some (some (Fl.io, d))
theorem s_for {t : T} {body : List Stmt} {mi : Nv → R (List RT.D × List Nat)} {f : Nv → SR} (ok : SOk C W X) (ki : KpI mi) (hi : PI X tg iter (tI C W mi)) (hg : PG X tg (gT C t)) (hb : PSs X body (tSM C W f)) (hs : ∀ x, foldedSetIterable iter X.env x = pure x) :
    PS X (.For tg iter body [] pos) (tSM C W fun n => (mi n).toS fun p e1 => (forGo t f p.1 e1).bind fun e2 => sget (unlock e2 p.2)) :=
  PS_imp (ps_for ok.hp ok.calm hi hg hb hs) fun D σ H ⟨G, Rs, F, e, r, q⟩ => ⟨G, Rs, F, e, r, by
    have q : AfterS C W G Rs σ F e D ((mi e).toS fun p e1 => (forGo t f p.1 e1).bind fun e2 => sget (unlock e2 p.2)) := q
    cases hmi : mi e with
    | bad => rw [hmi] at q; exact q
    | exc c d e1 => rw [hmi] at q; exact fun F' H' cls x s r1 hx => q σ F' H' cls x s r1 hx
    | ok p e1 =>
      obtain ⟨its, ls⟩ := p
      obtain ⟨ke, kls⟩ := ki _ _ _ hmi
      rw [hmi] at q
      dsimp only [R.toS] at q
      intro J F1 H1 s1 r1 hW
      have hW : WkD C F1 σ e1 J its := hW
      have lk0 : LkSame σ e σ e1 := ke.same
      generalize hR : forGo t f its e1 = Rr at q
      have fin : ∀ {σ2 : L2.St} {F2 H2 : Hp} {e2 : Nv}, Rr = .nx e2 → Sub F1 F2 → Rel C G Rs F2 H2 σ2 e2 → LkSame σ e1 σ2 e2 → D.nx σ2 H2 := fun {σ2 F2 H2 e2} hr s r lk => by
        rw [hr] at q
        dsimp only [SR.bind] at q
        cases hu : unlock e2 ls with
        | none => rw [hu] at q; exact q.elim
        | some e7 =>
          rw [hu] at q
          have lk' := lk0.trans lk
          refine q σ2 F2 H2 (s1.trans s) (unlock_ok r hu) ⟨fun l d hl => ?_, fun l d hl => ?_⟩
          · obtain ⟨z1, z2⟩ := lk'.lk l d hl
            exact ⟨by rw [unlock_get hu fun hm => (kls l hm d).1 hl]; exact z1, z2⟩
          · obtain ⟨⟨d', z1⟩, z2⟩ := lk'.io l d hl
            exact ⟨⟨d', by rw [unlock_get hu fun hm => (kls l hm d).2 hl]; exact z1⟩, z2⟩
      refine ⟨fun i m σ' H' => m = its.length - i ∧ i ≤ its.length ∧ ∃ F' e', Sub F1 F' ∧ Rel C G Rs F' H' σ' e' ∧ LkSame σ e1 σ' e' ∧ forGo t f (its.drop i) e' = Rr,
        ⟨its.length, by simp, Nat.zero_le _, F1, e1, Sub.refl, r1, LkSame.refl, by rw [List.drop_zero]; exact hR⟩, ?_⟩
      rintro i m σ2 H2 ⟨rfl, hi, F2, e2, s2, r2, lk2, hgo⟩
      obtain ⟨hg, hst⟩ := hW G Rs F2 H2 σ2 e2 i s2 r2 lk2
      by_cases hlt : i < its.length
      case neg =>
        have hi' : i = its.length := by omega
        rw [hi', List.drop_length] at hgo
        exact .inl ⟨hst hi', fin hgo.symm s2 r2 lk2⟩
      case pos =>
        obtain ⟨hgo1, hy⟩ := hg its[i] (List.getElem?_eq_getElem hlt)
        refine .inr ⟨hgo1, fun σ' H' => ∃ F' e', Sub F1 F' ∧ Rel C G Rs F' H' σ' e' ∧ LkSame σ e1 σ' e' ∧ forGo t f (its.drop (i + 1)) e' = Rr, fun σ' H' hN => ⟨its.length - (i + 1), by omega, rfl, hlt, hN⟩, fun x H3 hyl => ?_⟩
        obtain ⟨F3, s3, r3, hx⟩ := hy x H3 hyl
        rw [List.drop_eq_getElem_cons hlt] at hgo
        simp only [forGo] at hgo
        split at hgo
        case h_2 => rw [← hgo] at q; exact q.elim
        rename_i e3 he3
        refine ⟨G, Rs, F3, e2, e3, its[i], r3, hx, he3, fun σ4 H4 st4 r4 => ⟨G, Rs, F3, e3, r4, ?_⟩⟩
        have lk3 : LkSame σ e1 σ4 e3 := lk2.trans (setT_lkSame he3 st4)
        cases hf : f e3 with
        | bad => rw [hf] at hgo; rw [← hgo] at q; exact q.elim
        | nx e5 => rw [hf] at hgo; exact fun σ5 F5 H5 s5 r5 l5 => ⟨F5, e5, s2.trans (s3.trans s5), r5, lk3.trans l5, hgo⟩
        | ct e5 => rw [hf] at hgo; exact fun σ5 F5 H5 s5 r5 l5 => ⟨F5, e5, s2.trans (s3.trans s5), r5, lk3.trans l5, hgo⟩
        | bk e5 => rw [hf] at hgo; exact fun σ5 F5 H5 s5 r5 l5 => fin hgo.symm (s2.trans (s3.trans s5)) r5 (lk3.trans l5)
        | rt v e5 => rw [hf] at hgo; rw [← hgo] at q; exact fun σ5 F5 H5 x s5 r5 l5 hv => q σ5 F5 H5 x (s1.trans (s2.trans (s3.trans s5))) r5 (lk0.trans (lk3.trans l5)) hv
        | exc c d e5 => rw [hf] at hgo; rw [← hgo] at q; exact fun σ5 F5 H5 cls x s5 r5 hv => q σ5 F5 H5 cls x (s1.trans (s2.trans (s3.trans s5))) r5 hv⟩
theorem s_whl {body : List Stmt} {m : Nv → R VL} {f : Nv → SR} (ok : SOk C W X) (km : KpE m) (hc : PT X c (tB C W m)) (hb : PSs X body (tSM C W f)) : PS X (.While c body [] pos) (tSM C W fun n => whlGo (tst m) f fuelW n) :=
  PS_imp (ps_while ok.hp hc hb) fun D σ H ⟨G, Rs, F, e, r, q⟩ => by
    have q : AfterS C W G Rs σ F e D (whlGo (tst m) f fuelW e) := q
    generalize hR : whlGo (tst m) f fuelW e = Rr at q
    refine ⟨fun k σ' H' => ∃ F' e', Sub F F' ∧ Rel C G Rs F' H' σ' e' ∧ LkSame σ e σ' e' ∧ whlGo (tst m) f k e' = Rr, ⟨fuelW, F, e, Sub.refl, r, LkSame.refl, hR⟩, ?_⟩
    rintro k σ2 H2 ⟨F2, e2, s2, r2, lk2, hgo⟩
    cases k with
    | zero => rw [whlGo] at hgo; rw [← hgo] at q; exact q.elim
    | succ k =>
      rw [whlGo] at hgo
      refine ⟨G, Rs, F2, e2, r2, ?_⟩
      cases hm : tst m e2 with
      | bad => rw [hm] at hgo; rw [← hgo] at q; exact q
      | exc c d e3 => rw [hm] at hgo; rw [← hgo] at q; exact fun F' H' cls x s r1 hx => q σ2 F' H' cls x (s2.trans s) r1 hx
      | ok b e3 =>
        rw [hm] at hgo
        dsimp only [R.toS] at hgo
        intro b' F3 H3 s3 r3 hb3
        obtain rfl : b' = b := hb3
        have lk3 : LkSame σ e σ2 e3 := lk2.trans (tst_lk km _ _ _ hm).same
        cases b' with
        | false =>
          rw [if_neg Bool.false_ne_true] at hgo ⊢
          rw [← hgo] at q
          exact q σ2 F3 H3 (s2.trans s3) r3 lk3
        | true =>
          rw [if_pos rfl] at hgo ⊢
          refine ⟨fun σ' H' => ∃ F' e', Sub F F' ∧ Rel C G Rs F' H' σ' e' ∧ LkSame σ e σ' e' ∧ whlGo (tst m) f k e' = Rr, fun σ' H' hN => ⟨k, Nat.lt_succ_self _, hN⟩, G, Rs, F3, e3, r3, ?_⟩
          cases hf : f e3 with
          | bad => rw [hf] at hgo; rw [← hgo] at q; exact q.elim
          | nx e5 => rw [hf] at hgo; exact fun σ5 F5 H5 s5 r5 l5 => ⟨F5, e5, s2.trans (s3.trans s5), r5, lk3.trans l5, hgo⟩
          | ct e5 => rw [hf] at hgo; exact fun σ5 F5 H5 s5 r5 l5 => ⟨F5, e5, s2.trans (s3.trans s5), r5, lk3.trans l5, hgo⟩
          | bk e5 => rw [hf] at hgo; rw [← hgo] at q; exact fun σ5 F5 H5 s5 r5 l5 => q σ5 F5 H5 (s2.trans (s3.trans s5)) r5 (lk3.trans l5)
          | rt v e5 => rw [hf] at hgo; rw [← hgo] at q; exact fun σ5 F5 H5 x s5 r5 l5 hv => q σ5 F5 H5 x (s2.trans (s3.trans s5)) r5 (lk3.trans l5) hv
          | exc c d e5 => rw [hf] at hgo; rw [← hgo] at q; exact fun σ5 F5 H5 cls x s5 r5 hv => q σ5 F5 H5 cls x (s2.trans (s3.trans s5)) r5 hv
end
end RT

set_option Elab.async false
set_option linter.all false
set_option maxRecDepth 100000
/-! CoreQ: fields; several names at once. -/
namespace RT
open PySem PySem.Spec PyProof.Rows L2
section
variable {C : Ct} {W : WX} {X : Cx} {G : Hp} {Rs : Rv} {F F' F1 H H' : Hp} {σ σ' σ1 : L2.St} {e e' e0 e1 : Nv} {v : V} {a b c tg iter : Expr} {es : List Expr} {pos p0 : Pos}
theorem ioOnly_at {i j : Nat} {d : RT.D} (h : ioOnly e i = true) (hj : e[j]? = some (some (Fl.io, d))) : j = i := by
  unfold ioOnly at h
  have hl := (List.getElem?_eq_some_iff.mp hj).1
  have := List.all_eq_true.mp h j (List.mem_range.mpr hl)
  rw [hj] at this
  simpa using this
/-- a field of what is handed in -/
theorem Rel.fldPut {i k cl : Nat} {fs : List (Option RT.D)} {d : RT.D} {p dx : Addr} {vs : List (Option V)} (r : Rel C G Rs F H σ e) (hi : e[i]? = some (some (Fl.io, RT.D.obj cl fs))) (ho : ioOnly e i = true) (hp : σ[i]? = some (some (V.ref p)))
    (kc : C.cs cl = true) (ob : Ob H p (C.clA cl) dx vs) (ne : dx ≠ p) (f1 : F dx = none) (g1 : G dx = none) (n1 : ¬ Rs dx) (ro : RepO C F vs fs) (gg : Rs.dx = some dx) (h : Rep C F v d) :
    Rel C G Rs F (SlX.slH H p (C.clA cl) dx (SlX.putS k v vs)) σ (e.set i (some (Fl.io, RT.D.obj cl ((fs ++ List.replicate (k + 1 - fs.length) none).set k (some d))))) := by
  obtain ⟨hil, _⟩ := List.getElem?_eq_some_iff.mp hi
  obtain ⟨p', h1, f0, n0, g0, cc⟩ := r.ow i _ _ hi (by decide)
  rw [hp] at h1; cases h1
  have kk : ∀ {b : Addr}, b ≠ p → b ≠ dx → SlX.slH H p (C.clA cl) dx (SlX.putS k v vs) b = H b := fun a b => SlX.slH_ne a b
  have ob' : Ob (SlX.slH H p (C.clA cl) dx (SlX.putS k v vs)) p (C.clA cl) dx (SlX.putS k v vs) := by
    refine .inr ⟨upd_same, ?_⟩
    unfold SlX.slH
    rw [upd_ne ne, upd_same]
  have bk : ∀ {j : Nat} {f : Fl} {d' : RT.D}, (e.set i (some (Fl.io, RT.D.obj cl ((fs ++ List.replicate (k + 1 - fs.length) none).set k (some d)))))[j]? = some (some (f, d')) → ∃ d0, e[j]? = some (some (f, d0)) := fun {j f d'} hj => by
    by_cases q : i = j
    · subst q; rw [List.getElem?_set_self hil] at hj; cases hj; exact ⟨_, hi⟩
    · rw [List.getElem?_set_ne q] at hj; exact ⟨_, hj⟩
  refine ⟨by rw [List.length_set]; exact r.len, fun b o hb => ?_, fun b o hb => ?_, fun b hb => ⟨(r.rs b hb).1, ?_⟩, fun j d' hj => ?_, fun j f d' hj hf => ?_, fun j k fi fj di dj q hjk a1 b1 a2 b2 x1 x2 => ?_⟩
  · rw [kk (ne_of_none hb f0) (ne_of_none hb f1)]
    exact r.fh b o hb
  · rw [kk (ne_of_none hb g0) (ne_of_none hb g1)]
    exact r.gh b o hb
  · rw [kk (by rintro rfl; exact n0 hb) (by rintro rfl; exact n1 hb)]
    exact (r.rs b hb).2
  · by_cases q : i = j
    · subst q; rw [List.getElem?_set_self hil] at hj; cases hj
    · rw [List.getElem?_set_ne q] at hj
      exact r.sh j d' hj
  · by_cases q : i = j
    · subst q; rw [List.getElem?_set_self hil] at hj; cases hj
      exact ⟨p, hp, f0, n0, g0, .obj rfl kc ob' ne f1 g1 n1 (ro.put h) gg⟩
    · rw [List.getElem?_set_ne q] at hj
      obtain ⟨u, z1, z2, z3, z4, co⟩ := r.ow j f d' hj hf
      have nu : u ≠ p := by
        rintro rfl
        exact r.inj i j _ _ _ _ _ q hi (by decide) hj hf hp z1
      refine ⟨u, z1, z2, z3, z4, ?_⟩
      cases co with
      | l co =>
        have nd : u ≠ dx := by
          rintro rfl
          cases co with
          | lst y _ => rcases ob with ⟨_, _, x⟩ | ⟨_, x⟩ <;> (rw [x] at y; cases y)
          | dct y _ => rcases ob with ⟨_, _, x⟩ | ⟨_, x⟩ <;> (rw [x] at y; cases y)
        exact .l (co.at (kk nu nd))
      | obj z _ _ _ _ _ _ _ _ =>
        subst z
        exact absurd (ioOnly_at ho hj) (Ne.symm q)
  · obtain ⟨_, a1⟩ := bk a1
    obtain ⟨_, a2⟩ := bk a2
    exact r.inj j k fi fj _ _ q hjk a1 b1 a2 b2 x1 x2
theorem g_f {i k cl : Nat} {y f : Str} {py : Pos} (ok : XOk C W X) (hv : PE X (.Name y py) (tVar i)) (hs : ∃ p, SlX.Slot1 C.K (C.clA cl) f p k) : PG X (.Attribute (.Name y py) f pos) (gT C (.fld i cl k)) := by
  refine ⟨fun pins s σ H v u Q I r h => ?_⟩
  obtain ⟨G, Rs, F, e, e', d, rl, hr, hset, kq⟩ := h
  show wpAny _ _ (do
    let ov ← holding [u] (eval (.Name y py) X.env)
    standAt pos.atName
    holding [u, ov] (setAttr ov f u)
    release [u, ov] []) _ _ s
  unfold setT at hset
  split at hset
  case h_2 => cases hset
  rename_i c fs hi
  split at hset
  case isFalse => cases hset
  rename_i hb
  cases hset
  obtain ⟨p, hp, f0, n0, g0, cc⟩ := rl.ow i _ _ hi (by decide)
  obtain rfl := hb.1.2
  cases cc with
  | l cc => cases cc
  | @obj dx vs _ _ _ kc ob ne f1 g1 n1 ro gg =>
    refine wpAny_bind (wpAny_holding (thn (hv.run pins s σ H (fun x H1 => x = .ref p ∧ H1 = H) I ⟨_, hp, rfl, rfl⟩) fun ov s1 ⟨x, H1, I1, r1, ex, eH⟩ => ?_))
    subst ex eH
    cases r1
    refine wpAny_bind (wpAny_standAt (wpAny_bind (wpAny_holding ?_)))
    obtain ⟨ps, hps⟩ := hs
    refine SlX.setslot_ok I1 ob.slt (by rw [ok.k]; exact (ok.is.cl _ kc).1) (by rw [ok.k]; exact hps) r fun s3 I3 => wpAny_release ⟨σ, _, I3, ?_⟩
    refine kq σ _ ⟨rfl, fun j hj => ⟨rfl, ?_⟩⟩ (rl.fldPut hi hb.2 hp kc ob ne f1 g1 n1 ro gg hr)
    by_cases q : i = j
    · subst q
      exact .inr ⟨_, _, hi, List.getElem?_set_self (List.getElem?_eq_some_iff.mp hi).1⟩
    · exact .inl (List.getElem?_set_ne q)
end
end RT

set_option Elab.async false
set_option linter.all false
set_option maxRecDepth 100000
/-! CoreR: several names at once. -/
namespace RT
open PySem PySem.Spec PyProof.Rows L2
/-- values in hand: frozen ones and fresh ones, all apart -/
inductive VReps (C : Ct) (G : Hp) (Rs : Rv) (F H : Hp) (σ : L2.St) (e : Nv) : List V → List VL → Prop
  | nil : VReps C G Rs F H σ e [] []
  | fz {v : V} {d : D} {vs : List V} {ls : List VL} : Rep C F v d → VReps C G Rs F H σ e vs ls → VReps C G Rs F H σ e (v :: vs) (.fz d :: ls)
  | fr {p : Addr} {d : D} {vs : List V} {ls : List VL} : VRep C G Rs F H σ e (.ref p) (.fr d) → (∀ u d', (u, VL.fr d') ∈ vs.zip ls → u ≠ .ref p) → VReps C G Rs F H σ e vs ls → VReps C G Rs F H σ e (.ref p :: vs) (.fr d :: ls)
def vFs (C : Ct) : VR (List VL) (List V) := fun G Rs σ F H e vs ls => VReps C G Rs F H σ e vs ls
section
variable {C : Ct} {W : WX} {X : Cx} {G : Hp} {Rs : Rv} {F F' F1 H H' : Hp} {σ σ' σ1 : L2.St} {e e' e0 e1 : Nv} {v : V} {a b c tg iter : Expr} {es : List Expr} {pos p0 : Pos}
/-- a fresh list is held -/
theorem Rel.hold {p : Addr} {d : D} (r : Rel C G Rs F H σ e) (h : VRep C G Rs F H σ e (.ref p) (.fr d)) : ∃ o, H p = some o ∧ Rel C (upd G p o) (Rs.add p) F H σ e := by
  obtain ⟨p', ep, f0, n0, g0, c, no⟩ := h
  cases ep
  obtain ⟨o, ho⟩ := Option.ne_none_iff_exists'.mp c.there
  refine ⟨o, ho, r.len, r.fh, fun a u z => ?_, fun a z => ?_, r.sh, fun i fl d' z hf => ?_, r.inj⟩
  · by_cases q : a = p
    · subst q; rw [upd_same] at z; rw [ho]; exact z
    · rw [upd_ne q] at z; exact r.gh a u z
  · rcases z with z | rfl
    · exact r.rs a z
    · exact ⟨f0, c.there⟩
  · obtain ⟨q, h1, h2, h3, h4, co⟩ := r.ow i fl d' z hf
    have np : q ≠ p := by
      rintro rfl
      exact no i fl d' z hf h1
    refine ⟨q, h1, h2, fun w => Or.elim w h3 np, by rw [upd_ne np]; exact h4, ?_⟩
    cases co with
    | l co => exact .l co
    | @obj dx vs cl fs z0 zk ob nn f1 g1 n1 ro gg =>
      have nd : dx ≠ p := by
        rintro rfl
        cases c with
        | lst y _ => rcases ob with ⟨_, _, x⟩ | ⟨_, x⟩ <;> (rw [x] at y; cases y)
        | dct y _ => rcases ob with ⟨_, _, x⟩ | ⟨_, x⟩ <;> (rw [x] at y; cases y)
      exact .obj z0 zk ob nn f1 (by rw [upd_ne nd]; exact g1) (fun w => Or.elim w n1 nd) ro gg
theorem Rel.unhold {p : Addr} {o : HO} (r : Rel C (upd G p o) (Rs.add p) F H σ e) (g0 : G p = none) : Rel C G Rs F H σ e := by
  refine ⟨r.len, r.fh, fun a u h => r.gh a u ?_, fun a h => r.rs a (.inl h), r.sh, fun i fl d h hf => ?_, r.inj⟩
  · rw [upd_ne (ne_of_none h g0)]; exact h
  · obtain ⟨q, h1, h2, h3, h4, c⟩ := r.ow i fl d h hf
    have np : q ≠ p := fun z => h3 (.inr z)
    rw [upd_ne np] at h4
    refine ⟨q, h1, h2, fun z => h3 (.inl z), h4, ?_⟩
    cases c with
    | l c => exact .l c
    | @obj dx vs c fs z zk a b g d f k gg =>
      have nd : dx ≠ p := fun z => f (.inr z)
      rw [upd_ne nd] at d
      exact .obj z zk a b g d (fun z => f (.inl z)) k gg
theorem ConL.at2 {p : Addr} {d : D} {o : HO} (h : ConL C F H p d) (k : H p = some o) (k' : H' p = some o) (s : Sub F F') : ConL C F' H' p d := (h.at (k'.trans k.symm)).up s
theorem VReps.unhold {p : Addr} {o : HO} {vs : List V} {ls : List VL} (g0 : G p = none) (h : VReps C (upd G p o) (Rs.add p) F H σ e vs ls) : VReps C G Rs F H σ e vs ls ∧ ∀ u d', (u, VL.fr d') ∈ vs.zip ls → u ≠ .ref p := by
  induction h with
  | nil => exact ⟨.nil, fun u d' h => by simp at h⟩
  | fz h r ih => exact ⟨.fz h ih.1, fun u d' z => by
      rw [List.zip_cons_cons, List.mem_cons] at z
      rcases z with z | z
      · cases z
      · exact ih.2 u d' z⟩
  | @fr q d vs ls h nn r ih =>
    obtain ⟨q', eq, f0, n0, g1, c, no⟩ := h
    cases eq
    have nq : q ≠ p := fun z => n0 (.inr z)
    rw [upd_ne nq] at g1
    refine ⟨.fr ⟨q, rfl, f0, fun z => n0 (.inl z), g1, c, no⟩ nn ih.1, fun u d' z => ?_⟩
    rw [List.zip_cons_cons, List.mem_cons] at z
    rcases z with z | z
    · cases z
      rintro w
      exact nq (V.ref.inj w)
    · exact ih.2 u d' z
def consF (ma : Nv → R VL) (mr : Nv → R (List VL)) (n : Nv) : R (List VL) := (ma n).bind fun v e1 => (match pkF e1 v with
  | some (v', e2) => (mr e2).bind fun vs e3 => .ok (v' :: vs) e3
  | none => .bad)
theorem f_nil : PA X [] (tG C W (vFs C) (fun n => .ok [] n)) := PA_imp pa_nil fun σ H Q ⟨G, Rs, F, n, r, q⟩ => q [] F H Sub.refl r .nil
theorem f_cons {ma : Nv → R VL} {mr : Nv → R (List VL)} (hn : notStar a = true) (ha : PE X a (tE C W ma)) (hr : PA X es (tG C W (vFs C) mr)) : PA X (a :: es) (tG C W (vFs C) (consF ma mr)) :=
  PA_imp (pa_cons ha hr (starEach_ns hn)) fun σ H Q ⟨G, Rs, F, n, r, q⟩ => ⟨G, Rs, F, n, r, q.bnd fun v e1 x F1 H1 _ s1 r1 h1 q1 => by
    have frz : ∀ {d : D} {e2 : Nv}, fzv e1 v = some (d, e2) → After C W G Rs σ F1 (vFs C) Q ((mr e2).bind fun vs e3 => .ok (.fz d :: vs) e3) → tG C W (vFs C) mr σ H1 fun xs H2 => Q (x :: xs) H2 := fun {d e2} hz q2 => by
      obtain ⟨F2, s2, r2, h2⟩ := h1.frozen r1 hz
      refine ⟨G, Rs, F2, e2, r2, (After.mono s2 q2).bnd fun vs e3 xs F3 H3 _ s3 r3 h3 q3 => ?_⟩
      exact q3 _ F3 H3 Sub.refl r3 (.fz (h2.up s3) h3)
    cases v with
    | fz d => exact frz rfl q1
    | pk i =>
      cases hz : fzv e1 (.pk i) with
      | none => simp only [pkF, hz] at q1; exact q1.elim
      | some de =>
        simp only [pkF, hz] at q1
        exact frz hz q1
    | fr d =>
      have q1 : After C W G Rs σ F1 (vFs C) Q ((mr e1).bind fun vs e3 => .ok (.fr d :: vs) e3) := q1
      obtain ⟨p, rfl, f0, n0, g0, c, no⟩ := id h1
      obtain ⟨o, ho, r2⟩ := r1.hold h1
      refine ⟨_, _, F1, e1, r2, ?_⟩
      cases hm : mr e1 with
      | bad => rw [hm] at q1; exact q1.elim
      | exc cc dd e3 =>
        rw [hm] at q1
        exact fun F' H' cls x' s r' hx => q1 F' H' cls x' s (r'.unhold g0) hx
      | ok vs e3 =>
        rw [hm] at q1
        intro xs F3 H3 s3 r3 h3
        obtain ⟨h4, nn⟩ := VReps.unhold g0 h3
        have hp : H3 p = some o := r3.gh _ _ upd_same
        refine q1 _ F3 H3 s3 (r3.unhold g0) (.fr ⟨p, rfl, (r3.rs p (.inr rfl)).1, n0, g0, c.at2 ho hp s3, fun i fl d' z hf w => ?_⟩ nn h4)
        obtain ⟨u, z1, _, z3, _⟩ := r3.ow i fl d' z hf
        rw [w] at z1; cases z1
        exact z3 (.inr rfl)⟩
/-- the names in turn -/
def setAll : L2.St → List Nat → List V → L2.St
  | σ, i :: is, v :: vs => setAll (σ.set i (some v)) is vs
  | σ, _, _ => σ
theorem setVs_ok : ∀ {is : List Nat} {vs : List V} {ls : List VL} {σ : L2.St} {e e' : Nv}, Rel C G Rs F H σ e → VReps C G Rs F H σ e vs ls → setVs is ls e = some e' → Rel C G Rs F H (setAll σ is vs) e' ∧ LkSame σ e (setAll σ is vs) e'
  | [], _, _, σ, e, e', r, .nil, h => by
    simp only [setVs] at h
    cases h
    exact ⟨r, LkSame.refl⟩
  | [], _, _, σ, e, e', r, .fz _ _, h => by simp only [setVs, reduceCtorEq] at h
  | [], _, _, σ, e, e', r, .fr _ _ _, h => by simp only [setVs, reduceCtorEq] at h
  | i :: is, _, _, σ, e, e', r, .nil, h => by simp only [setVs, reduceCtorEq] at h
  | i :: is, _, _, σ, e, e', r, @VReps.fz _ _ _ _ _ _ _ v d vs ls hv rest, h => by
    simp only [setVs] at h
    split at h
    · rename_i e1 h1
      simp only [setV, fzv] at h1
      obtain ⟨⟨o, ho⟩, rfl, hk, hk2⟩ := setT_v h1
      have r1 := r.put ho hv
      have up : ∀ {vs : List V} {ls : List VL}, VReps C G Rs F H σ e vs ls → VReps C G Rs F H (σ.set i (some v)) (e.set i (some (.sh, d))) vs ls := fun {vs ls} h => by
        induction h with
        | nil => exact .nil
        | fz h _ ih => exact .fz h ih
        | fr h nn _ ih =>
          obtain ⟨p, ep, f0, n0, g0, c, no⟩ := h
          refine .fr ⟨p, ep, f0, n0, g0, c, fun j fl d' z hf w => ?_⟩ nn ih
          by_cases q : i = j
          · subst q
            rw [List.getElem?_set_self (List.getElem?_eq_some_iff.mp ho).1] at z; cases z
            exact hf rfl
          · rw [List.getElem?_set_ne q] at z w
            exact no j fl d' z hf w
      obtain ⟨r2, l2⟩ := setVs_ok r1 (up rest) h
      exact ⟨r2, (set_lkSame hk hk2).trans l2⟩
    · cases h
  | i :: is, _, _, σ, e, e', r, @VReps.fr _ _ _ _ _ _ _ p d vs ls hv nn rest, h => by
    simp only [setVs] at h
    split at h
    · rename_i e1 h1
      unfold setV at h1
      dsimp only at h1
      split at h1
      · cases h1
      · cases h1
      · rename_i o g1 g2 g3
        cases h1
        obtain ⟨p', ep, f0, n0, g0, c, no⟩ := hv
        cases ep
        have r1 : Rel C G Rs F H (σ.set i (some (.ref p))) (e.set i (some (.ow, d))) := r.putOw g3 f0 n0 g0 c fun j fl d' _ => no j fl d'
        have up : ∀ {vs : List V} {ls : List VL}, (∀ u d', (u, VL.fr d') ∈ vs.zip ls → u ≠ .ref p) → VReps C G Rs F H σ e vs ls → VReps C G Rs F H (σ.set i (some (.ref p))) (e.set i (some (.ow, d))) vs ls := fun {vs ls} nn h => by
          induction h with
          | nil => exact .nil
          | fz h _ ih => exact .fz h (ih fun u d' z => nn u d' (by rw [List.zip_cons_cons]; exact List.mem_cons_of_mem _ z))
          | @fr p2 d2 vs2 ls2 h nn2 _ ih =>
            have n2 : V.ref p2 ≠ V.ref p := nn _ d2 (by rw [List.zip_cons_cons]; exact List.mem_cons_self)
            obtain ⟨p3, ep, f0, n0, g0, c, no⟩ := h
            cases ep
            refine .fr ⟨p2, rfl, f0, n0, g0, c, fun j fl d' z hf w => ?_⟩ nn2 (ih fun u d' z => nn u d' (by rw [List.zip_cons_cons]; exact List.mem_cons_of_mem _ z))
            by_cases q : i = j
            · subst q
              rw [List.getElem?_set_self (by rw [r.len]; exact (List.getElem?_eq_some_iff.mp g3).1)] at w
              exact n2 (Option.some.inj (Option.some.inj w)).symm
            · rw [List.getElem?_set_ne q] at z w
              exact no j fl d' z hf w
        obtain ⟨r2, l2⟩ := setVs_ok r1 (up nn rest) h
        exact ⟨r2, LkSame.trans (set_lkSame (fun d' z => by rw [g3] at z; cases z; exact g2 d' rfl) fun d' z => by rw [g3] at z; cases z; exact g1 d' rfl) l2⟩
      · cases h1
    · cases h
theorem VReps.length {vs : List V} {ls : List VL} (h : VReps C G Rs F H σ e vs ls) : vs.length = ls.length := by
  induction h with
  | nil => rfl
  | fz _ _ ih => simp [ih]
  | fr _ _ _ ih => simp [ih]
theorem setVs_len : ∀ {is : List Nat} {ls : List VL} {e e' : Nv}, setVs is ls e = some e' → is.length = ls.length
  | [], [], _, _, _ => rfl
  | [], _ :: _, _, _, h => by simp only [setVs, reduceCtorEq] at h
  | _ :: _, [], _, _, h => by simp only [setVs, reduceCtorEq] at h
  | i :: is, l :: ls, e, e', h => by
    simp only [setVs] at h
    split at h
    · simp [setVs_len h]
    · cases h
theorem par_run {is : List Nat} {m : Nv → R (List VL)} (km : KpE m) {De : Ends} (h : tSM C W (fun n => (m n).toS fun vs e1 => sget (setVs is vs e1)) De σ H) :
    tG C W (vFs C) m σ H fun vs H1 => vs.length = is.length ∧ De.nx (setAll σ is vs) H1 := by
  obtain ⟨G, Rs, F, e, r, q⟩ := h
  refine ⟨G, Rs, F, e, r, q.bnd (fun a e1 h => km _ _ _ h) fun ls e1 vs F1 H1 _ s1 r1 h1 q1 => ?_⟩
  cases hs : setVs is ls e1 with
  | none => rw [hs] at q1; exact q1.elim
  | some e2 =>
    rw [hs] at q1
    obtain ⟨r2, l2⟩ := setVs_ok r1 h1 hs
    exact ⟨by rw [VReps.length h1, setVs_len hs], q1 _ F1 H1 Sub.refl r2 l2⟩
theorem swap2 {env : Env} {x y : Str} {px py pt pt2 : Pos} {kt k2 : Nat} (hk : env.scope.kind = .function) (hx : env.scope.names.lookup x = some .local) (hy : env.scope.names.lookup y = some .local) (hl : py.line = px.line) (hxy : (x == y) = false)
    (ha : notStar a = true) (hb : notStar b = true) (hf : (foldedForSure 8 a && foldedForSure 8 b) = false) (hc : (constantsAlone 8 a && constantsAlone 8 b) = false) :
    swappedStores [.Tuple [.Name x px, .Name y py] kt pt] (.Tuple [a, b] k2 pt2) env = pure (some [x, y]) := by
  have na : ∀ {z : Expr}, notStar z = true → (match z with | .Starred .. => true | _ => false) = false := fun {z} h => by cases z <;> first | rfl | cases h
  have hbk : env.blockKind = .function := by unfold Env.blockKind; rw [hk]; rfl
  have e1 : (y == x) = false := by
    rw [Bool.eq_false_iff] at hxy ⊢
    intro z
    exact hxy (by rw [eq_of_beq z]; exact beq_self_eq_true _)
  unfold swappedStores
  simp [hbk, Env.kindOf, hx, hy, hl, hf, hc, Expr.pos, List.eraseDups_cons, e1]
  rintro (h | h)
  · cases a <;> first | (cases h; done) | (cases ha; done)
  · cases b <;> first | (cases h; done) | (cases hb; done)
theorem s_par2 {i j : Nat} {x y : Str} {px py pt pt2 : Pos} {kt k2 : Nat} {m : Nv → R (List VL)} (ok : XOk C W X) (hi : X.N[i]? = some x) (hj : X.N[j]? = some y) (hij : i ≠ j) (hx : X.env.scope.names.lookup x = some .local) (hy : X.env.scope.names.lookup y = some .local)
    (hw : swappedStores [.Tuple [.Name x px, .Name y py] kt pt] (.Tuple [a, b] k2 pt2) X.env = pure (some [x, y])) (km : KpE m) (ha : PA X [a, b] (tG C W (vFs C) m)) :
    PS X (.Assign [.Tuple [.Name x px, .Name y py] kt pt] (.Tuple [a, b] k2 pt2) pos) (tSM C W fun n => (m n).toS fun vs e1 => sget (setVs [i, j] vs e1)) :=
  PS_imp (ps_par ok.calm ok.nd hi hj hij hx hy ha hw) fun D σ H h => by
    obtain ⟨G, Rs, F, e, r, q⟩ := par_run km h
    refine ⟨G, Rs, F, e, r, ?_⟩
    cases hm : m e with
    | bad => rw [hm] at q; exact q
    | exc c d e1 => rw [hm] at q; exact q
    | ok ls e1 =>
      rw [hm] at q
      intro vs F1 H1 s1 r1 h1
      obtain ⟨hl, hn⟩ := q vs F1 H1 s1 r1 h1
      match vs, hl with
      | [v, w], _ => exact ⟨v, w, rfl, hn⟩
end
end RT

set_option Elab.async false
set_option linter.all false
set_option maxRecDepth 100000
/-! CoreS: what is locked stays so. -/
namespace RT
open PySem PySem.Spec PyProof.Rows L2
def KR {α : Type} (e0 : Nv) : R α → Prop
  | .ok _ e' => LkE e0 e'
  | _ => True
section
variable {α β : Type} {e0 e e' : Nv}
theorem KR.bnd {r : R α} {f : α → Nv → R β} (h : KR e0 r) (k : ∀ a e1, LkE e0 e1 → KR e0 (f a e1)) : KR e0 (r.bind f) := by
  cases r with
  | ok a e => exact k a e h
  | exc c v e => exact True.intro
  | bad => exact True.intro
theorem KpE.kr {m : Nv → R α} (h : KpE m) (l : LkE e0 e) : KR e0 (m e) := by
  cases hm : m e with
  | ok a e1 => exact l.trans (h _ _ _ hm)
  | exc c v e => exact True.intro
  | bad => exact True.intro
theorem kpe_of {m : Nv → R α} (h : ∀ e, KR e (m e)) : KpE m := fun e a e' hm => by
  have := h e
  rw [hm] at this
  exact this
theorem LkE.set {i : Nat} {fl : Fl} {d d' : D} (l : LkE e0 e) (h : e[i]? = some (some (fl, d))) (hf : fl ≠ .lk) : LkE e0 (e.set i (some (fl, d'))) := l.trans (LkE.setAt h hf (by cases fl <;> first | exact .inr ⟨_, rfl⟩ | exact .inl (by decide)))
theorem fzL_lk : ∀ {vs : List VL} {e e' : Nv} {ds : List D}, fzL e vs = some (ds, e') → LkE e e'
  | [], e, e', ds, h => by cases h; exact LkE.refl
  | v :: vs, e, e', ds, h => by
    simp only [fzL] at h
    split at h
    · rename_i d e1 h1
      split at h
      · rename_i ds' e2 h2
        cases h
        exact (fzv_lk h1).trans (fzL_lk h2)
      · cases h
    · cases h
theorem ownB_at {i : Nat} {fl : Fl} {d : D} (h : ownB e i = some (fl, d)) : e[i]? = some (some (fl, d)) ∧ fl ≠ .lk := by
  unfold ownB at h
  split at h
  · cases h; exact ⟨by assumption, by decide⟩
  · cases h; exact ⟨by assumption, by decide⟩
  · cases h
theorem lockV_lk {vl : VL} : LkE e (lockV e vl).1 := by
  cases vl with
  | fz _ => exact LkE.refl
  | fr _ => exact LkE.refl
  | pk i =>
    rw [lockV]
    split
    · rename_i d h
      exact LkE.setAt h (by decide) (.inl (by decide))
    · exact LkE.refl
theorem lockV_ls {vl : VL} {l : Nat} (h : l ∈ (lockV e vl).2) (d : D) : e[l]? ≠ some (some (.lk, d)) ∧ e[l]? ≠ some (some (.io, d)) := by
  cases vl with
  | fz _ => simp [lockV] at h
  | fr _ => simp [lockV] at h
  | pk i =>
    rw [lockV] at h
    split at h
    · rename_i d' hi
      obtain rfl := List.mem_singleton.mp h
      rw [hi]
      exact ⟨nofun, nofun⟩
    · simp at h
theorem lockV_le {vl : VL} {l : Nat} {e1 : Nv} (k : LkE e1 e) (h : l ∈ (lockV e vl).2) (d : D) : e1[l]? ≠ some (some (.lk, d)) ∧ e1[l]? ≠ some (some (.io, d)) :=
  ⟨fun z => (lockV_ls h d).1 (k.lk l d z), fun z => let ⟨d', z'⟩ := k.io l d z; (lockV_ls h d').2 z'⟩
theorem pkF_lk {v v' : VL} (h : pkF e v = some (v', e')) : LkE e e' := by
  cases v with
  | fr d => cases h; exact LkE.refl
  | fz d => simp only [pkF, fzv] at h; cases h; exact LkE.refl
  | pk i =>
    simp only [pkF] at h
    split at h
    · rename_i d e1 h1
      cases h
      exact fzv_lk h1
    · cases h
theorem isOwL_nlk {i : Nat} (h : isOwL e i = true) : ∃ xs, e[i]? = some (some (.ow, .lst xs)) := isOwL_at h
theorem wipeN_lk {vs : List Nat} {e1 : Nv} {l : Nat} (hv : l ∉ vs) : (wipeN e1 vs)[l]? = e1[l]? := wipeN_get hv
theorem lcGo_lk {vs : List Nat} {t : T} {f : Nv → R (Option D)} (kf : KpE f) {e1 : Nv} (hn : noOwn e1 vs = true) : ∀ {xs acc : List D} {e e' : Nv} {ds : List D}, lcGo vs t f xs acc e = .ok ds e' → LkE e1 e → LkE e1 e'
  | [], acc, e, e', ds, h, hl => by simp only [lcGo] at h; cases h; exact hl
  | x :: xs, acc, e, e', ds, h, hl => by
    simp only [lcGo] at h
    split at h
    · rename_i e2 h1
      have l1 := hl.trans (setT_lk _ _ _ _ h1)
      split at h
      · rename_i d e3 h2
        have l2 := l1.trans (kf _ _ _ h2)
        split at h
        · exact lcGo_lk kf hn h (l2.wipe hn)
        · cases h
      · rename_i e3 h2
        exact lcGo_lk kf hn h ((l1.trans (kf _ _ _ h2)).wipe hn)
      · cases h
    · cases h
theorem dcGo_lk {vs : List Nat} {t : T} {f : Nv → R (Option (L2.Key × D))} (kf : KpE f) {e1 : Nv} (hn : noOwn e1 vs = true) : ∀ {xs : List D} {acc : List (L2.Key × D)} {e e' : Nv} {ds : List (L2.Key × D)}, dcGo vs t f xs acc e = .ok ds e' → LkE e1 e → LkE e1 e'
  | [], acc, e, e', ds, h, hl => by simp only [dcGo] at h; cases h; exact hl
  | x :: xs, acc, e, e', ds, h, hl => by
    simp only [dcGo] at h
    split at h
    · rename_i e2 h1
      have l1 := hl.trans (setT_lk _ _ _ _ h1)
      split at h
      · rename_i d e3 h2
        have l2 := l1.trans (kf _ _ _ h2)
        split at h
        · exact dcGo_lk kf hn h (l2.wipe hn)
        · cases h
      · rename_i e3 h2
        exact dcGo_lk kf hn h ((l1.trans (kf _ _ _ h2)).wipe hn)
      · cases h
    · cases h
theorem unlock_lk {vs ls : List Nat} {e1 e6 e7 : Nv} (hown : noOwn e1 vs = true) (l1 : LkE e e1) (l2 : ∀ l ∈ ls, ∀ d, e[l]? ≠ some (some (Fl.lk, d)) ∧ e[l]? ≠ some (some (Fl.io, d))) (h6 : LkE e1 e6) (hu : unlock (backN e1 e6 vs) ls = some e7) : LkE e e7 := by
  have no : ∀ {l : Nat} {fl : Fl} {d : D}, e1[l]? = some (some (fl, d)) → fl ≠ .sh → l ∉ vs := fun {l fl d} hl hf hm => by
    rcases noOwn_at hown hm with z | ⟨d', z⟩
    · rw [hl] at z; cases z
    · rw [hl] at z; cases z; exact hf rfl
  refine ⟨fun l d hl => ?_, fun l d hl => ?_⟩
  · have h1 := l1.lk l d hl
    rw [unlock_get hu fun hm => (l2 l hm d).1 hl, backN_get, if_neg (no h1 (by decide))]
    exact h6.lk l d h1
  · obtain ⟨d1, h1⟩ := l1.io l d hl
    rw [unlock_get hu fun hm => (l2 l hm d).2 hl, backN_get, if_neg (no h1 (by decide))]
    exact h6.io l d1 h1
theorem lc2Go_lk {vs : List Nat} {t : T} {f : List D → Nv → R (List D)} (kf : ∀ acc, KpE (f acc)) {e1 : Nv} (hn : noOwn e1 vs = true) : ∀ {xs acc : List D} {e e' : Nv} {ds : List D}, lc2Go vs t f xs acc e = .ok ds e' → LkE e1 e → LkE e1 e'
  | [], acc, e, e', ds, h, hl => by simp only [lc2Go] at h; cases h; exact hl
  | x :: xs, acc, e, e', ds, h, hl => by
    simp only [lc2Go] at h
    split at h
    · rename_i e2 h1
      have l1 := hl.trans (setT_lk _ _ _ _ h1)
      split at h
      · rename_i d e3 h2
        exact lc2Go_lk kf hn h ((l1.trans (kf _ _ _ _ h2)).wipe hn)
      · cases h
    · cases h
theorem turnM_lk {mt : Nv → R Bool} {me : Nv → R VL} (kt : KpE mt) (ke : KpE me) : KpE (turnM mt me) := kpe_of fun e => by
  unfold turnM
  refine KR.bnd (kt.kr LkE.refl) fun b e3 l3 => ?_
  split
  · refine KR.bnd (ke.kr l3) fun v e4 l4 => ?_
    split
    · rename_i h; exact l4.trans (fzv_lk h)
    · exact True.intro
  · exact l3
def turn2 (vs1 : List Nat) (t1 : T) (mt : Nv → R Bool) (mi1 : Nv → R (List D × List Nat)) (mt1 : Nv → R Bool) (me : Nv → R VL) (acc : List D) (e2 : Nv) : R (List D) :=
  (mt e2).bind fun b e3 => if b then (mi1 e3).bind fun p e4 => if noOwn e4 vs1 then
    (lcGo vs1 t1 (turnM mt1 me) p.1 acc (wipeN e4 vs1)).bind fun ds e9 => (match unlock (backN e4 e9 vs1) p.2 with
      | some e10 => .ok ds e10
      | none => .bad)
    else .bad else .ok acc e3
theorem turn2_lk {vs1 : List Nat} {t1 : T} {mt : Nv → R Bool} {mi1 : Nv → R (List D × List Nat)} {mt1 : Nv → R Bool} {me : Nv → R VL} (kt : KpE mt) (ki : KpI mi1) (kt1 : KpE mt1) (ke : KpE me) (acc : List D) : KpE (turn2 vs1 t1 mt mi1 mt1 me acc) := kpe_of fun e => by
  unfold turn2
  refine KR.bnd (kt.kr LkE.refl) fun b e3 l3 => ?_
  split
  · cases hi : mi1 e3 with
    | bad => exact True.intro
    | exc c v e => exact True.intro
    | ok p e4 =>
      obtain ⟨l4, l5⟩ := ki _ _ _ hi
      dsimp only [R.bind]
      split
      · rename_i hown
        generalize hg : lcGo vs1 t1 _ p.1 acc (wipeN e4 vs1) = r
        cases r with
        | bad => exact True.intro
        | exc c v e => exact True.intro
        | ok ds e6 =>
          dsimp only [R.bind]
          split
          · rename_i e7 hu
            exact l3.trans (unlock_lk hown l4 l5 (lcGo_lk (turnM_lk kt1 ke) hown hg (LkE.refl.wipe hown)) hu)
          · exact True.intro
      · exact True.intro
  · exact l3
def lc2M (vs : List Nat) (t : T) (mi : Nv → R (List D × List Nat)) (mt : Nv → R Bool) (vs1 : List Nat) (t1 : T) (mi1 : Nv → R (List D × List Nat)) (mt1 : Nv → R Bool) (me : Nv → R VL) (e : Nv) : R VL := (mi e).bind fun p e1 => if noOwn e1 vs then
  (lc2Go vs t (turn2 vs1 t1 mt mi1 mt1 me) p.1 [] (wipeN e1 vs)).bind fun ds e6 => (match unlock (backN e1 e6 vs) p.2 with
    | some e7 => .ok (.fr (.lst ds)) e7
    | none => .bad)
  else .bad
theorem lc2M_lk {vs : List Nat} {t : T} {mi : Nv → R (List D × List Nat)} {vs1 : List Nat} {t1 : T} {mt : Nv → R Bool} {mi1 : Nv → R (List D × List Nat)} {mt1 : Nv → R Bool} {me : Nv → R VL} (ki0 : KpI mi) (kt : KpE mt) (ki : KpI mi1) (kt1 : KpE mt1) (ke : KpE me) : KpE (lc2M vs t mi mt vs1 t1 mi1 mt1 me) := kpe_of fun e => by
  unfold lc2M
  cases hi : mi e with
  | bad => exact True.intro
  | exc c v e => exact True.intro
  | ok p e4 =>
    obtain ⟨l4, l5⟩ := ki0 _ _ _ hi
    dsimp only [R.bind]
    split
    · rename_i hown
      generalize hg : lc2Go vs t _ p.1 [] (wipeN e4 vs) = r
      cases r with
      | bad => exact True.intro
      | exc c v e => exact True.intro
      | ok ds e6 =>
        dsimp only [R.bind]
        split
        · rename_i e7 hu
          exact unlock_lk hown l4 l5 (lc2Go_lk (turn2_lk kt ki kt1 ke) hown hg (LkE.refl.wipe hown)) hu
        · exact True.intro
    · exact True.intro
end
theorem den_lc2 {cb : Cal} {K : Nat → Option D} {x src src1 : E} {vs vs1 : List Nat} {t t1 : T} {ts ts1 : List E} : den cb K (.lc2 x vs t src ts vs1 t1 src1 ts1) = lc2M vs t (denI cb K src) (denT cb K ts) vs1 t1 (denI cb K src1) (denT cb K ts1) (den cb K x) := by
  funext e
  rw [den]
  rfl
section
variable (cb : Cal) (K : Nat → Option D)
set_option hygiene false in
mutual
theorem den_lk : ∀ x : E, KpE (den cb K x)
  | .non => kpe_of fun e => by unfold den; exact LkE.refl
  | .bl _ => kpe_of fun e => by unfold den; exact LkE.refl
  | .int _ => kpe_of fun e => by unfold den; exact LkE.refl
  | .str _ => kpe_of fun e => by unfold den; exact LkE.refl
  | .var i => kpe_of fun e => by unfold den; split <;> first | exact LkE.refl | exact True.intro
  | .glb g => kpe_of fun e => by unfold den; split <;> first | exact LkE.refl | exact True.intro
  | .fnv _ => kpe_of fun e => by unfold den; exact LkE.refl
  | .dn => kpe_of fun e => by unfold den; exact LkE.refl
  | .nvr => kpe_of fun e => by unfold den; exact True.intro
  | .star _ => kpe_of fun e => by unfold den; exact True.intro
  | .rng _ _ _ => kpe_of fun e => by unfold den; exact True.intro
  | .enm _ => kpe_of fun e => by unfold den; exact True.intro
  | .zip _ _ => kpe_of fun e => by unfold den; exact True.intro
  | .its _ => kpe_of fun e => by unfold den; exact True.intro
  | .tup as => kpe_of fun e => by
    unfold den
    refine KR.bnd ((denL_lk as).kr LkE.refl) fun vs e1 l => ?_
    split
    · rename_i h
      split <;> first | exact l.trans (fzL_lk h) | exact True.intro
    · exact True.intro
  | .lst as => kpe_of fun e => by
    unfold den
    refine KR.bnd ((denL_lk as).kr LkE.refl) fun vs e1 l => ?_
    split
    · rename_i h
      split <;> first | exact l.trans (fzL_lk h) | exact True.intro
    · exact True.intro
  | .bin op a b => kpe_of fun e => by
    unfold den
    refine KR.bnd ((den_lk a).kr LkE.refl) fun va e1 l1 => KR.bnd ((den_lk b).kr l1) fun vb e2 l2 => ?_
    split
    · split <;> first | exact l2 | exact True.intro
    · exact True.intro
  | .neg a => kpe_of fun e => by
    unfold den
    refine KR.bnd ((den_lk a).kr LkE.refl) fun va e1 l1 => ?_
    split <;> first | exact l1 | exact True.intro
  | .cmp op a b => kpe_of fun e => by
    unfold den
    refine KR.bnd ((den_lk a).kr LkE.refl) fun va e1 l1 => KR.bnd ((den_lk b).kr l1) fun vb e2 l2 => ?_
    split
    · split <;> first | exact l2 | exact True.intro
    · exact True.intro
  | .chn o1 o2 a b c => kpe_of fun e => by
    unfold den
    refine KR.bnd ((den_lk a).kr LkE.refl) fun va e1 l1 => KR.bnd ((den_lk b).kr l1) fun vb e2 l2 => ?_
    split
    · split
      · refine KR.bnd ((den_lk c).kr l2) fun vc e3 l3 => ?_
        split
        · split <;> first | exact l3 | exact True.intro
        · exact True.intro
      · exact l2
      · exact True.intro
    · exact True.intro
  | .and a b => kpe_of fun e => by
    unfold den
    refine KR.bnd ((den_lk a).kr LkE.refl) fun va e1 l1 => ?_
    split
    · exact (den_lk b).kr l1
    · exact l1
    · exact True.intro
  | .or a b => kpe_of fun e => by
    unfold den
    refine KR.bnd ((den_lk a).kr LkE.refl) fun va e1 l1 => ?_
    split
    · exact l1
    · exact (den_lk b).kr l1
    · exact True.intro
  | .not a => kpe_of fun e => by
    unfold den
    refine KR.bnd ((den_lk a).kr LkE.refl) fun va e1 l1 => ?_
    split <;> first | exact l1 | exact True.intro
  | .ife c a b => kpe_of fun e => by
    unfold den
    refine KR.bnd ((den_lk c).kr LkE.refl) fun va e1 l1 => ?_
    split
    · exact (den_lk a).kr l1
    · exact (den_lk b).kr l1
    · exact True.intro
  | .idx a i => kpe_of fun e => by
    unfold den
    refine KR.bnd ((den_lk a).kr LkE.refl) fun va e1 l1 => KR.bnd ((den_lk i).kr l1) fun vb e2 l2 => ?_
    split
    · split <;> first | exact l2 | exact True.intro
    · exact True.intro
  | .slc a lo hi => kpe_of fun e => by
    unfold den
    refine KR.bnd ((den_lk a).kr LkE.refl) fun va e1 l1 => KR.bnd ((denO_lk lo).kr l1) fun vb e2 l2 => KR.bnd ((denO_lk hi).kr l2) fun vc e3 l3 => ?_
    split
    · split <;> first | exact l3 | exact True.intro
    · exact True.intro
  | .rev a => kpe_of fun e => by
    unfold den
    refine KR.bnd ((den_lk a).kr LkE.refl) fun va e1 l1 => ?_
    split
    · split <;> first | exact l1 | exact True.intro
    · exact True.intro
  | .blt b as => kpe_of fun e => by
    unfold den
    refine KR.bnd ((denL_lk as).kr LkE.refl) fun va e1 l1 => ?_
    split
    · split <;> first | exact l1 | exact True.intro
    · exact True.intro
  | .call f none as => kpe_of fun e => by
    unfold den
    refine KR.bnd ((denL_lk as).kr LkE.refl) fun va e1 l1 => ?_
    split
    · rename_i h
      split <;> first | exact l1.trans (fzL_lk h) | exact True.intro
    · exact True.intro
  | .call f (some i) as => kpe_of fun e => by
    unfold den
    split
    · refine KR.bnd ((denL_lk as).kr LkE.refl) fun va e1 l1 => ?_
      split
      · rename_i h
        split
        · rename_i ho
          obtain ⟨h1, h2⟩ := ownB_at ho
          split <;> first | exact (l1.trans (fzL_lk h)).set h1 h2 | exact True.intro
        · exact True.intro
      · exact True.intro
    · exact True.intro
  | .callL f i as => kpe_of fun e => by
    unfold den
    split
    · refine KR.bnd ((denL_lk as).kr LkE.refl) fun va e1 l1 => ?_
      split
      · split
        · rename_i ho
          obtain ⟨h1, h2⟩ := ownB_at ho
          split
          · split
            · exact l1.set h1 h2
            · exact True.intro
          · exact True.intro
        · exact True.intro
      · exact True.intro
    · exact True.intro
  | .callF f a => kpe_of fun e => by
    unfold den
    refine KR.bnd ((den_lk a).kr LkE.refl) fun va e1 l1 => ?_
    split
    · split <;> first | exact l1 | exact True.intro
    · exact True.intro
  | .new c f as => kpe_of fun e => by
    unfold den
    refine KR.bnd ((denL_lk as).kr LkE.refl) fun va e1 l1 => ?_
    split
    · rename_i h
      split <;> first | exact l1.trans (fzL_lk h) | exact True.intro
    · exact True.intro
  | .fld a c k => kpe_of fun e => by
    unfold den
    refine KR.bnd ((den_lk a).kr LkE.refl) fun va e1 l1 => ?_
    split
    · split
      · split <;> first | exact l1 | exact True.intro
      · exact True.intro
    · exact True.intro
  | .prop a c f => kpe_of fun e => by
    unfold den
    refine KR.bnd ((den_lk a).kr LkE.refl) fun va e1 l1 => ?_
    split
    · split
      · split <;> first | exact l1 | exact True.intro
      · exact True.intro
    · exact True.intro
  | .pop i none => kpe_of fun e => by
    unfold den
    split
    · rename_i h
      split <;> first | exact LkE.refl.set h (by decide) | exact True.intro
    · exact True.intro
  | .pop i (some a) => kpe_of fun e => by
    unfold den
    split
    · refine KR.bnd ((den_lk a).kr LkE.refl) fun va e1 l1 => ?_
      split
      · rename_i h _
        split
        · split <;> first | exact l1.set h (by decide) | exact True.intro
        · exact True.intro
      · exact True.intro
    · exact True.intro
  | .app i a => kpe_of fun e => by
    unfold den
    split
    · refine KR.bnd ((den_lk a).kr LkE.refl) fun va e1 l1 => ?_
      split
      · rename_i h
        split
        · rename_i h2
          split <;> first | exact (l1.trans (fzv_lk h)).set h2 (by decide) | exact True.intro
        · exact True.intro
      · exact True.intro
    · exact True.intro
  | .get a k d => kpe_of fun e => by
    unfold den
    refine KR.bnd ((den_lk a).kr LkE.refl) fun va e1 l1 => ?_
    split
    · refine KR.bnd ((den_lk k).kr l1) fun vb e2 l2 => KR.bnd ((den_lk d).kr l2) fun vc e3 l3 => ?_
      split
      · rename_i h
        split <;> first | exact l3.trans (fzv_lk h) | exact True.intro
      · exact True.intro
    · exact True.intro
  | .lc2 x vs t src ts vs1 t1 src1 ts1 => by
    rw [den_lc2]
    exact lc2M_lk (denI_lk src) (denT_lk ts) (denI_lk src1) (denT_lk ts1) (den_lk x)
  | .ezp _ _ => kpe_of fun e => by unfold den; exact True.intro
  | .ext i a => kpe_of fun e => by
    unfold den
    split
    · refine KR.bnd ((den_lk a).kr LkE.refl) fun va e1 l1 => ?_
      split
      · rename_i h2
        split <;> first | exact l1.set h2 (by decide) | exact True.intro
      · exact True.intro
    · exact True.intro
  | .lrg tp a b => kpe_of fun e => by
    unfold den
    refine KR.bnd ((den_lk a).kr LkE.refl) fun va e1 l1 => KR.bnd ((den_lk b).kr l1) fun vb e2 l2 => ?_
    split
    · split
      · split <;> first | exact l2 | exact True.intro
      · exact True.intro
    · exact True.intro
  | .lc x vs t src ts => kpe_of fun e => by
    unfold den
    cases hi : denI cb K src e with
    | bad => exact True.intro
    | exc c v e => exact True.intro
    | ok p e1 =>
      obtain ⟨l1, l2⟩ := denI_lk src _ _ _ hi
      obtain ⟨its, ls⟩ := p
      dsimp only [R.bind]
      split
      · rename_i hown
        generalize hg : lcGo vs t _ its [] (wipeN e1 vs) = r
        cases r with
        | bad => exact True.intro
        | exc c v e => exact True.intro
        | ok ds e6 =>
          dsimp only [R.bind]
          split
          · rename_i e7 hu
            have kf : KpE (fun e2 => (denT cb K ts e2).bind fun b e3 => if b = true then (den cb K x e3).bind fun v e4 => (match fzv e4 v with
              | some (d, e5) => .ok (some d) e5
              | none => .bad) else .ok none e3) := kpe_of fun e => by
                refine KR.bnd ((denT_lk ts).kr LkE.refl) fun b e3 l3 => ?_
                split
                · refine KR.bnd ((den_lk x).kr l3) fun v e4 l4 => ?_
                  split
                  · rename_i h; exact l4.trans (fzv_lk h)
                  · exact True.intro
                · exact l3
            have h6 := lcGo_lk kf hown hg (LkE.refl.wipe hown)
            have no : ∀ {l : Nat} {fl : Fl} {d : D}, e1[l]? = some (some (fl, d)) → fl ≠ .sh → l ∉ vs := fun {l fl d} hl hf hm => by
              rcases noOwn_at hown hm with z | ⟨d', z⟩
              · rw [hl] at z; cases z
              · rw [hl] at z; cases z; exact hf rfl
            refine ⟨fun l d hl => ?_, fun l d hl => ?_⟩
            · have h1 := l1.lk l d hl
              rw [unlock_get hu fun hm => (l2 l hm d).1 hl, backN_get, if_neg (no h1 (by decide))]
              exact h6.lk l d h1
            · obtain ⟨d1, h1⟩ := l1.io l d hl
              rw [unlock_get hu fun hm => (l2 l hm d).2 hl, backN_get, if_neg (no h1 (by decide))]
              exact h6.io l d1 h1
          · exact True.intro
      · exact True.intro
  | .dc k x vs t src ts => kpe_of fun e => by
    unfold den
    cases hi : denI cb K src e with
    | bad => exact True.intro
    | exc c v e => exact True.intro
    | ok p e1 =>
      obtain ⟨l1, l2⟩ := denI_lk src _ _ _ hi
      obtain ⟨its, ls⟩ := p
      dsimp only [R.bind]
      split
      · rename_i hown
        generalize hg : dcGo vs t _ its [] (wipeN e1 vs) = r
        cases r with
        | bad => exact True.intro
        | exc c v e => exact True.intro
        | ok ds e6 =>
          dsimp only [R.bind]
          split
          · rename_i e7 hu
            have kf : KpE (fun e2 => (denT cb K ts e2).bind fun b e3 => if b = true then (den cb K k e3).bind fun vk e4 => (match (lkv e4 vk).bind keyD with
              | some q => (den cb K x e4).bind fun v e5 => (match fzv e5 v with
                | some (d, e6) => .ok (some (q, d)) e6
                | none => .bad)
              | none => .bad) else .ok none e3) := kpe_of fun e => by
                refine KR.bnd ((denT_lk ts).kr LkE.refl) fun b e3 l3 => ?_
                split
                · refine KR.bnd ((den_lk k).kr l3) fun vk e4 l4 => ?_
                  split
                  · refine KR.bnd ((den_lk x).kr l4) fun v e5 l5 => ?_
                    split
                    · rename_i hz
                      exact l5.trans (fzv_lk hz)
                    · exact True.intro
                  · exact True.intro
                · exact l3
            have h6 := dcGo_lk kf hown hg (LkE.refl.wipe hown)
            have no : ∀ {l : Nat} {fl : Fl} {d : D}, e1[l]? = some (some (fl, d)) → fl ≠ .sh → l ∉ vs := fun {l fl d} hl hf hm => by
              rcases noOwn_at hown hm with z | ⟨d', z⟩
              · rw [hl] at z; cases z
              · rw [hl] at z; cases z; exact hf rfl
            refine ⟨fun l d hl => ?_, fun l d hl => ?_⟩
            · have h1 := l1.lk l d hl
              rw [unlock_get hu fun hm => (l2 l hm d).1 hl, backN_get, if_neg (no h1 (by decide))]
              exact h6.lk l d h1
            · obtain ⟨d1, h1⟩ := l1.io l d hl
              rw [unlock_get hu fun hm => (l2 l hm d).2 hl, backN_get, if_neg (no h1 (by decide))]
              exact h6.io l d1 h1
          · exact True.intro
      · exact True.intro
theorem denL_lk : ∀ x : List E, KpE (denL cb K x)
  | [] => kpe_of fun e => by unfold denL; exact LkE.refl
  | a :: r => kpe_of fun e => by
    have ha := den_lk a
    have hr := denL_lk r
    by_cases h : ∃ b, a = .star b
    · obtain ⟨b, rfl⟩ := h
      unfold denL
      refine KR.bnd ((den_lk b).kr LkE.refl) fun v e1 l1 => ?_
      split
      · exact KR.bnd (hr.kr l1) fun vs e2 l2 => l2
      · exact True.intro
    · have : denL cb K (a :: r) e = (den cb K a e).bind fun v e1 => (denL cb K r e1).bind fun vs e2 => .ok (v.set :: vs) e2 := by
        cases a <;> first | rfl | exact absurd ⟨_, rfl⟩ h
      rw [this]
      exact KR.bnd (ha.kr LkE.refl) fun v e1 l1 => KR.bnd (hr.kr l1) fun vs e2 l2 => l2
theorem denO_lk : ∀ x : Option E, KpE (denO cb K x)
  | none => kpe_of fun e => by unfold denO; exact LkE.refl
  | some a => kpe_of fun e => by
    unfold denO
    refine KR.bnd ((den_lk a).kr LkE.refl) fun v e1 l1 => ?_
    split <;> first | exact l1 | exact True.intro
theorem denT_lk : ∀ x : List E, KpE (denT cb K x)
  | [] => kpe_of fun e => by unfold denT; exact LkE.refl
  | a :: r => kpe_of fun e => by
    unfold denT
    refine KR.bnd ((den_lk a).kr LkE.refl) fun v e1 l1 => ?_
    split
    · exact (denT_lk r).kr l1
    · exact l1
    · exact True.intro
theorem denI_lk : ∀ x : E, KpI (denI cb K x)
  | .rng a b st => fun e p e' h => by
    unfold denI at h
    cases ha : den cb K a e with
    | bad => rw [ha] at h; cases h
    | exc c v e => rw [ha] at h; cases h
    | ok va e1 =>
      rw [ha] at h
      dsimp only [R.bind] at h
      have l1 := den_lk a _ _ _ ha
      cases hb : den cb K b e1 with
      | bad => rw [hb] at h; cases h
      | exc c v e => rw [hb] at h; cases h
      | ok vb e2 =>
        rw [hb] at h
        dsimp only [R.bind] at h
        have l2 := l1.trans (den_lk b _ _ _ hb)
        split at h
        · split at h
          · cases h; exact ⟨l2, fun l hl => nomatch hl⟩
          · cases h
        · cases h
  | .enm a => fun e p e' h => by
    unfold denI at h
    cases ha : den cb K a e with
    | bad => rw [ha] at h; cases h
    | exc c v e => rw [ha] at h; cases h
    | ok va e1 =>
      rw [ha] at h
      dsimp only [R.bind] at h
      have l1 := den_lk a _ _ _ ha
      split at h
      · cases h
        exact ⟨l1.trans lockV_lk, fun l hl d => lockV_le l1 hl d⟩
      · cases h
  | .its a => fun e p e' h => by
    unfold denI at h
    cases ha : den cb K a e with
    | bad => rw [ha] at h; cases h
    | exc c v e => rw [ha] at h; cases h
    | ok va e1 =>
      rw [ha] at h
      dsimp only [R.bind] at h
      have l1 := den_lk a _ _ _ ha
      split at h
      · cases h
        exact ⟨l1.trans lockV_lk, fun l hl d => lockV_le l1 hl d⟩
      · cases h
  | .ezp a b => fun e p e' h => by
    unfold denI at h
    cases ha : den cb K a e with
    | bad => rw [ha] at h; cases h
    | exc c v e => rw [ha] at h; cases h
    | ok va e1 =>
      rw [ha] at h
      dsimp only [R.bind] at h
      have l1 := den_lk a _ _ _ ha
      cases hb : den cb K b e1 with
      | bad => rw [hb] at h; cases h
      | exc c v e => rw [hb] at h; cases h
      | ok vb e2 =>
        rw [hb] at h
        dsimp only [R.bind] at h
        have l2 := l1.trans (den_lk b _ _ _ hb)
        split at h
        · cases h
          refine ⟨l2.trans (lockV_lk.trans lockV_lk), fun l hl d => ?_⟩
          rcases List.mem_append.mp hl with hl | hl
          · exact lockV_le (l2.trans lockV_lk) hl d
          · exact lockV_le l2 hl d
        · cases h
  | .lc2 _ _ _ _ _ _ _ _ _ => fun e p e' h => by unfold denI at h; cases h
  | .ext _ _ => fun e p e' h => by unfold denI at h; cases h
  | .lrg _ _ _ => fun e p e' h => by unfold denI at h; cases h
  | .zip a b => fun e p e' h => by
    unfold denI at h
    cases ha : den cb K a e with
    | bad => rw [ha] at h; cases h
    | exc c v e => rw [ha] at h; cases h
    | ok va e1 =>
      rw [ha] at h
      dsimp only [R.bind] at h
      have l1 := den_lk a _ _ _ ha
      cases hb : den cb K b e1 with
      | bad => rw [hb] at h; cases h
      | exc c v e => rw [hb] at h; cases h
      | ok vb e2 =>
        rw [hb] at h
        dsimp only [R.bind] at h
        have l2 := l1.trans (den_lk b _ _ _ hb)
        split at h
        · cases h
          refine ⟨l2.trans (lockV_lk.trans lockV_lk), fun l hl d => ?_⟩
          rcases List.mem_append.mp hl with hl | hl
          · exact lockV_le (l2.trans lockV_lk) hl d
          · exact lockV_le l2 hl d
        · cases h
  | .non => fun e p e' h => by unfold denI at h; cases h
  | .bl _ => fun e p e' h => by unfold denI at h; cases h
  | .int _ => fun e p e' h => by unfold denI at h; cases h
  | .str _ => fun e p e' h => by unfold denI at h; cases h
  | .var _ => fun e p e' h => by unfold denI at h; cases h
  | .glb _ => fun e p e' h => by unfold denI at h; cases h
  | .fnv _ => fun e p e' h => by unfold denI at h; cases h
  | .dn => fun e p e' h => by unfold denI at h; cases h
  | .callF _ _ => fun e p e' h => by unfold denI at h; cases h
  | .callL _ _ _ => fun e p e' h => by unfold denI at h; cases h
  | .nvr => fun e p e' h => by unfold denI at h; cases h
  | .star _ => fun e p e' h => by unfold denI at h; cases h
  | .tup _ => fun e p e' h => by unfold denI at h; cases h
  | .lst _ => fun e p e' h => by unfold denI at h; cases h
  | .bin _ _ _ => fun e p e' h => by unfold denI at h; cases h
  | .neg _ => fun e p e' h => by unfold denI at h; cases h
  | .cmp _ _ _ => fun e p e' h => by unfold denI at h; cases h
  | .chn _ _ _ _ _ => fun e p e' h => by unfold denI at h; cases h
  | .and _ _ => fun e p e' h => by unfold denI at h; cases h
  | .or _ _ => fun e p e' h => by unfold denI at h; cases h
  | .not _ => fun e p e' h => by unfold denI at h; cases h
  | .ife _ _ _ => fun e p e' h => by unfold denI at h; cases h
  | .idx _ _ => fun e p e' h => by unfold denI at h; cases h
  | .slc _ _ _ => fun e p e' h => by unfold denI at h; cases h
  | .rev _ => fun e p e' h => by unfold denI at h; cases h
  | .blt _ _ => fun e p e' h => by unfold denI at h; cases h
  | .call _ _ _ => fun e p e' h => by unfold denI at h; cases h
  | .new _ _ _ => fun e p e' h => by unfold denI at h; cases h
  | .fld _ _ _ => fun e p e' h => by unfold denI at h; cases h
  | .prop _ _ _ => fun e p e' h => by unfold denI at h; cases h
  | .pop _ _ => fun e p e' h => by unfold denI at h; cases h
  | .app _ _ => fun e p e' h => by unfold denI at h; cases h
  | .get _ _ _ => fun e p e' h => by unfold denI at h; cases h
  | .lc _ _ _ _ _ => fun e p e' h => by unfold denI at h; cases h
  | .dc _ _ _ _ _ _ => fun e p e' h => by unfold denI at h; cases h
end
theorem denF_lk : ∀ x : List E, KpE (denF cb K x)
  | [] => kpe_of fun e => LkE.refl
  | a :: r => kpe_of fun e => by
    unfold denF
    refine KR.bnd ((den_lk cb K a).kr LkE.refl) fun v e1 l1 => ?_
    split
    · rename_i h
      exact KR.bnd ((denF_lk r).kr (l1.trans (pkF_lk h))) fun vs e2 l2 => l2
    · exact True.intro
end
end RT

set_option Elab.async false
set_option linter.all false
set_option maxRecDepth 100000
/-! CoreLc: comprehensions of two clauses. -/
namespace RT
open PySem PySem.Spec PyProof.Rows L2
section
variable {C : Ct} {W : WX} {X : Cx} {G : Hp} {Rs : Rv} {F F' H H' : Hp} {σ σ' : L2.St} {e e' : Nv} {v : V} {a b c tg iter tg1 iter1 : Expr} {es : List Expr} {pos p0 : Pos}
theorem lc2_run {vs vs1 : List Nat} {t t1 : T} {mi mi1 : Nv → R (List D × List Nat)} {mt mt1 : Nv → R Bool} {me : Nv → R VL} {Q : VK} (kt : KpE mt) (ki1 : KpI mi1) (kt1 : KpE mt1) (ke : KpE me) (hsub : ∀ i ∈ tSl t, i ∈ vs) (hsub1 : ∀ i ∈ tSl t1, i ∈ vs1)
    (h : tE C W (lc2M vs t mi mt vs1 t1 mi1 mt1 me) σ H Q) : tLc2 (tI C W mi) (gT C t) (tG C (fun _ _ _ _ => False) vEq mt) (tI C (fun _ _ _ _ => False) mi1) (gT C t1) (tG C (fun _ _ _ _ => False) vEq mt1) (tE C (fun _ _ _ _ => False) me) vs vs1 σ H Q := by
  obtain ⟨G, Rs, F, n, r, q⟩ := h
  refine ⟨G, Rs, F, n, r, q.bnd fun p e1 J F1 H1 _ s1 r1 hW q1 => ?_⟩
  obtain ⟨its, ls⟩ := p
  dsimp only at q1
  have hW : WkD C F1 σ e1 J its := hW
  split at q1
  case isFalse => exact q1.elim
  rename_i hown
  intro D0 hD0
  have g0 : G D0 = none := (r1.fresh hD0).2.2.1
  generalize hR : lc2Go vs t (turn2 vs1 t1 mt mi1 mt1 me) its [] (wipeN e1 vs) = Rr at q1
  refine ⟨fun i m H' => m = its.length - i ∧ i ≤ its.length ∧ ∃ F' e acc accV, Sub F1 F' ∧ Rel C (upd G D0 (.lst accV)) (Rs.add D0) F' H' (L2.wipe σ vs) e ∧ RepL C F' accV acc ∧ lc2Go vs t (turn2 vs1 t1 mt mi1 mt1 me) (its.drop i) acc e = Rr ∧ LkE e1 e,
    ⟨its.length, by simp, Nat.zero_le _, F1, wipeN e1 vs, [], [], Sub.refl, (r1.begin hD0).wipe vs, .nil, by rw [List.drop_zero]; exact hR, LkE.refl.wipe hown⟩, ?_⟩
  rintro i m H2 ⟨rfl, hi, F2, e2, acc, accV, s2, r2, ra, hgo, lke⟩
  have lkS : LkSame σ e1 (L2.wipe σ vs) e2 := lke.wipeS hown
  obtain ⟨hg, hst⟩ := hW _ _ F2 H2 (L2.wipe σ vs) e2 i s2 r2 lkS
  by_cases hlt : i < its.length
  case neg =>
    have hi' : i = its.length := by omega
    refine .inl ⟨hst hi', ?_⟩
    rw [hi', List.drop_length] at hgo
    rw [← hgo] at q1
    simp only [lc2Go, R.bind] at q1
    split at q1
    · rename_i e7 hu
      have f0 : F2 D0 = none := (r2.rs D0 (.inr rfl)).1
      have hDD : H2 D0 = some (.lst accV) := r2.gh _ _ upd_same
      have r3 := r2.ends g0
      have r4 := Rel.back r1 s2 hown r3
      have r5 := unlock_ok r4 hu
      refine q1 (.ref D0) F2 H2 s2 r5 ⟨D0, rfl, f0, (r1.fresh hD0).2.1, g0, .lst hDD ra, fun j fl d' hj hf z => ?_⟩
      obtain ⟨p, h1, _⟩ := r5.ow j fl d' hj hf
      rw [z] at h1; cases h1
      have : ∃ fl0 d0, fl0 ≠ Fl.sh ∧ (backN e1 e2 vs)[j]? = some (some (fl0, d0)) := by
        have gen : ∀ {ls : List Nat} {ea eb : Nv}, unlock ea ls = some eb → eb[j]? = some (some (fl, d')) → fl ≠ .sh → ∃ fl0 d0, fl0 ≠ Fl.sh ∧ ea[j]? = some (some (fl0, d0)) := by
          intro ls
          induction ls with
          | nil => intro ea eb hu hj hf; cases hu; exact ⟨fl, d', hf, hj⟩
          | cons l ls ih =>
            intro ea eb hu hj hf
            simp only [unlock] at hu
            split at hu
            · rename_i d0 hd0
              obtain ⟨fl1, d1, hf1, h1⟩ := ih hu hj hf
              by_cases ql : l = j
              · subst ql; exact ⟨.lk, d0, by decide, hd0⟩
              · rw [List.getElem?_set_ne ql] at h1
                exact ⟨fl1, d1, hf1, h1⟩
            · cases hu
        exact gen hu hj hf
      obtain ⟨fl0, d0, hf0, hj0⟩ := this
      rw [backN_get] at hj0
      by_cases qv : j ∈ vs
      · rw [if_pos qv] at hj0
        cases he : e2[j]? with
        | none => rw [he] at hj0; cases hj0
        | some o =>
          rw [he] at hj0
          have hj0 : (e1[j]?).getD none = some (fl0, d0) := Option.some.inj hj0
          rcases noOwn_at hown qv with w | ⟨d'', w⟩
          · rw [w] at hj0; cases hj0
          · rw [w] at hj0; cases hj0; exact hf0 rfl
      · rw [if_neg qv] at hj0
        obtain ⟨p', a1, _, a3, _⟩ := r2.ow j fl0 d0 hj0 hf0
        rw [wipe_get, if_neg qv, z] at a1
        cases a1
        exact a3 (.inr rfl)
    · exact q1.elim
  case pos =>
    obtain ⟨hgo1, hy⟩ := hg its[i] (List.getElem?_eq_getElem hlt)
    refine .inr ⟨hgo1, fun H' => ∃ F' e acc accV, Sub F1 F' ∧ Rel C (upd G D0 (.lst accV)) (Rs.add D0) F' H' (L2.wipe σ vs) e ∧ RepL C F' accV acc ∧ lc2Go vs t (turn2 vs1 t1 mt mi1 mt1 me) (its.drop (i + 1)) acc e = Rr ∧ LkE e1 e,
      fun H' hN => ⟨its.length - (i + 1), by omega, rfl, hlt, hN⟩, fun x H3 hyl => ?_⟩
    obtain ⟨F3, s3, r3, hx⟩ := hy x H3 hyl
    rw [List.drop_eq_getElem_cons hlt] at hgo
    simp only [lc2Go] at hgo
    split at hgo
    case h_2 => rw [← hgo] at q1; exact q1.elim
    rename_i e3 he3
    refine ⟨_, _, F3, e2, e3, its[i], r3, hx, he3, fun σ4 H4 st4 r4 => ?_⟩
    have hw4 : L2.wipe σ4 vs = L2.wipe (L2.wipe σ vs) vs := wipe_same st4.1 fun j hj => (st4.2 j fun z => hj (hsub j z)).1
    rw [wipe_idem] at hw4
    refine ⟨hw4, _, _, F3, e3, r4, ?_⟩
    have lk3 : LkE e1 e3 := lke.trans (setT_lk t _ _ _ he3)
    -- the turn
    rw [turn2] at hgo
    cases hmt : mt e3 with
    | bad => rw [hmt] at hgo; simp only [R.bind] at hgo; rw [← hgo] at q1; exact q1.elim
    | exc c d e => rw [hmt] at hgo; simp only [R.bind] at hgo; rw [← hgo] at q1; exact q1.elim
    | ok b4 e4 =>
      rw [hmt] at hgo
      simp only [R.bind] at hgo
      intro b5 F5 H5 s5 r5 hb5
      obtain rfl : b5 = b4 := hb5
      have lk4 : LkE e1 e4 := lk3.trans (kt _ _ _ hmt)
      cases b5 with
      | false =>
        rw [if_neg Bool.false_ne_true] at hgo ⊢
        refine ⟨F5, wipeN e4 vs, acc, accV, s2.trans (s3.trans s5), by rw [← hw4]; exact r5.wipe vs, ra.up (s3.trans s5), hgo, lk4.wipe hown⟩
      | true =>
        rw [if_pos rfl] at hgo ⊢
        refine ⟨_, _, F5, e4, r5, ?_⟩
        cases hmi : mi1 e4 with
        | bad => rw [hmi] at hgo; simp only at hgo; rw [← hgo] at q1; exact q1.elim
        | exc c d e => rw [hmi] at hgo; simp only at hgo; rw [← hgo] at q1; exact q1.elim
        | ok p5 e5 =>
          obtain ⟨its1, ls1⟩ := p5
          rw [hmi] at hgo
          simp only at hgo
          intro J1 F6 H6 s6 r6 hW1
          have hW1 : WkD C F6 σ4 e5 J1 its1 := hW1
          obtain ⟨lk45, lks⟩ := ki1 _ _ _ hmi
          by_cases hown1 : noOwn e5 vs1 = true
          case neg => rw [if_neg hown1] at hgo; simp only at hgo; rw [← hgo] at q1; exact q1.elim
          rw [if_pos hown1] at hgo
          generalize hR1 : lcGo vs1 t1 (turnM mt1 me) its1 acc (wipeN e5 vs1) = R1 at hgo
          have nb : R1 = .bad → False := fun h => by
            rw [h] at hgo; simp only at hgo; rw [← hgo] at q1; exact q1
          refine ⟨fun j k H' => k = its1.length - j ∧ j ≤ its1.length ∧ ∃ F' e acc accV, Sub F6 F' ∧ Rel C (upd G D0 (.lst accV)) (Rs.add D0) F' H' (L2.wipe σ4 vs1) e ∧ RepL C F' accV acc ∧ lcGo vs1 t1 (turnM mt1 me) (its1.drop j) acc e = R1 ∧ LkE e5 e,
            ⟨its1.length, by simp, Nat.zero_le _, F6, wipeN e5 vs1, acc, accV, Sub.refl, r6.wipe vs1, ra.up (s3.trans (s5.trans s6)), by rw [List.drop_zero]; exact hR1, LkE.refl.wipe hown1⟩, ?_⟩
          rintro j k H7 ⟨rfl, hj, F7, e7, acc7, accV7, s7, r7, ra7, hgo7, lke7⟩
          have lkS7 : LkSame σ4 e5 (L2.wipe σ4 vs1) e7 := lke7.wipeS hown1
          obtain ⟨hg7, hst7⟩ := hW1 _ _ F7 H7 (L2.wipe σ4 vs1) e7 j s7 r7 lkS7
          by_cases hlt7 : j < its1.length
          case neg =>
            have hj' : j = its1.length := by omega
            refine .inl ⟨hst7 hj', ?_⟩
            rw [hj', List.drop_length] at hgo7
            simp only [lcGo] at hgo7
            rw [← hgo7] at hgo
            simp only at hgo
            cases hu : unlock (backN e5 e7 vs1) ls1 with
            | none => rw [hu] at hgo; simp only at hgo; rw [← hgo] at q1; exact q1.elim
            | some e8 =>
              rw [hu] at hgo
              have r8 := unlock_ok (Rel.back (r6.grow (l' := accV7)) s7 hown1 r7) hu
              exact ⟨F7, wipeN e8 vs, acc7, accV7, s2.trans (s3.trans (s5.trans (s6.trans s7))), by rw [← hw4]; exact r8.wipe vs, ra7, hgo, (lk4.trans (unlock_lk hown1 lk45 lks lke7 hu)).wipe hown⟩
          case pos =>
            obtain ⟨hgo1', hy7⟩ := hg7 its1[j] (List.getElem?_eq_getElem hlt7)
            refine .inr ⟨hgo1', fun H' => ∃ F' e acc accV, Sub F6 F' ∧ Rel C (upd G D0 (.lst accV)) (Rs.add D0) F' H' (L2.wipe σ4 vs1) e ∧ RepL C F' accV acc ∧ lcGo vs1 t1 (turnM mt1 me) (its1.drop (j + 1)) acc e = R1 ∧ LkE e5 e,
              fun H' hN => ⟨its1.length - (j + 1), by omega, rfl, hlt7, hN⟩, fun x1 H8 hyl1 => ?_⟩
            obtain ⟨F8, s8, r8, hx8⟩ := hy7 x1 H8 hyl1
            rw [List.drop_eq_getElem_cons hlt7] at hgo7
            simp only [lcGo] at hgo7
            split at hgo7
            case h_2 => exact (nb hgo7.symm).elim
            rename_i e9 he9
            refine ⟨_, _, F8, e7, e9, its1[j], r8, hx8, he9, fun σ10 H10 st10 r10 => ?_⟩
            have hw10 : L2.wipe σ10 vs1 = L2.wipe (L2.wipe σ4 vs1) vs1 := wipe_same st10.1 fun j hj => (st10.2 j fun z => hj (hsub1 j z)).1
            rw [wipe_idem] at hw10
            refine ⟨hw10, _, _, F8, e9, r10, ?_⟩
            have lk9 : LkE e5 e9 := lke7.trans (setT_lk t1 _ _ _ he9)
            rw [turnM] at hgo7
            cases hmt1 : mt1 e9 with
            | bad => rw [hmt1] at hgo7; simp only [R.bind] at hgo7; exact (nb hgo7.symm).elim
            | exc c d e => rw [hmt1] at hgo7; simp only [R.bind] at hgo7; exact (nb hgo7.symm).elim
            | ok b11 e11 =>
              rw [hmt1] at hgo7
              simp only [R.bind] at hgo7
              intro b12 F12 H12 s12 r12 hb12
              obtain rfl : b12 = b11 := hb12
              have lk11 : LkE e5 e11 := lk9.trans (kt1 _ _ _ hmt1)
              cases b12 with
              | false =>
                rw [if_neg Bool.false_ne_true] at hgo7 ⊢
                exact ⟨F12, wipeN e11 vs1, acc7, accV7, s7.trans (s8.trans s12), by rw [← hw10]; exact r12.wipe vs1, ra7.up (s8.trans s12), hgo7, lk11.wipe hown1⟩
              | true =>
                rw [if_pos rfl] at hgo7 ⊢
                refine ⟨_, _, F12, e11, r12, ?_⟩
                cases hme : me e11 with
                | bad => rw [hme] at hgo7; simp only [R.bind] at hgo7; exact (nb hgo7.symm).elim
                | exc c d e => rw [hme] at hgo7; simp only [R.bind] at hgo7; exact (nb hgo7.symm).elim
                | ok v13 e13 =>
                  rw [hme] at hgo7
                  simp only [R.bind] at hgo7
                  intro y F13 H13 s13 r13 hy13
                  have hy13 : VRep C _ _ F13 H13 σ10 e13 y v13 := hy13
                  cases hz : fzv e13 v13 with
                  | none => rw [hz] at hgo7; simp only at hgo7; exact (nb hgo7.symm).elim
                  | some de =>
                    obtain ⟨d14, e14⟩ := de
                    rw [hz] at hgo7
                    simp only at hgo7
                    obtain ⟨F14, s14, r14, h14⟩ := hy13.frozen r13 hz
                    split at hgo7
                    case isFalse => exact (nb hgo7.symm).elim
                    rename_i hlen
                    have sA := s8.trans (s12.trans (s13.trans s14))
                    refine ⟨accV7, r14.gh _ _ upd_same, by rw [ra7.length, ← lim_eq]; exact hlen, ?_⟩
                    refine ⟨F14, wipeN e14 vs1, acc7 ++ [d14], accV7 ++ [y], s7.trans sA, ?_, (ra7.up sA).append (.cons h14 .nil), hgo7, (lk11.trans ((ke _ _ _ hme).trans (fzv_lk hz))).wipe hown1⟩
                    rw [← hw10]
                    exact (r14.grow).wipe vs1
theorem e_lc2 {vs1 : List Nat} {t t1 : T} {mi mi1 : Nv → R (List D × List Nat)} {mt mt1 : Nv → R Bool} {me : Nv → R VL} {elt : Expr} {ifs ifs1 : List Expr} {scope : Scope} {own : List (Str × Nat)} (ok : XOk C W X) (kt : KpE mt) (ki1 : KpI mi1) (kt1 : KpE mt1) (ke : KpE me) (hsub : ∀ i ∈ tSl t, i ∈ own.map (·.2)) (hsub1 : ∀ i ∈ tSl t1, i ∈ vs1) (hv : ∀ i ∈ vs1, i ∈ own.map (·.2))
    (hi : PI X tg iter (tI C W mi)) (bk : BlkOk X.N X.env.scope scope own) (hg : ∀ (s : Shared) (H : Hp) (C' : Addr) (cl : List (Str × Addr)) (fp : List Addr), PG (X.blk s H scope (compEnvC scope cl C' X.env) fp) tg (gT C t))
    (ht : ∀ (s : Shared) (H : Hp) (C' : Addr) (cl : List (Str × Addr)) (fp : List Addr), PTs (X.blk s H scope (compEnvC scope cl C' X.env) fp) ifs (tG C (fun _ _ _ _ => False) vEq mt))
    (hi1 : ∀ (s : Shared) (H : Hp) (C' : Addr) (cl : List (Str × Addr)) (fp : List Addr), PI (X.blk s H scope (compEnvC scope cl C' X.env) fp) tg1 iter1 (tI C (fun _ _ _ _ => False) mi1))
    (hg1 : ∀ (s : Shared) (H : Hp) (C' : Addr) (cl : List (Str × Addr)) (fp : List Addr), PG (X.blk s H scope (compEnvC scope cl C' X.env) fp) tg1 (gT C t1))
    (ht1 : ∀ (s : Shared) (H : Hp) (C' : Addr) (cl : List (Str × Addr)) (fp : List Addr), PTs (X.blk s H scope (compEnvC scope cl C' X.env) fp) ifs1 (tG C (fun _ _ _ _ => False) vEq mt1))
    (he : ∀ (s : Shared) (H : Hp) (C' : Addr) (cl : List (Str × Addr)) (fp : List Addr), PE (X.blk s H scope (compEnvC scope cl C' X.env) fp) elt (tE C (fun _ _ _ _ => False) me)) (hs : ∀ x, foldedSetIterable iter X.env x = pure x) (hs1 : ∀ env x, foldedSetIterable iter1 env x = pure x) :
    PE X (.ListComp elt [⟨tg, iter, ifs, 0⟩, ⟨tg1, iter1, ifs1, 0⟩] scope pos) (tE C W (lc2M (own.map (·.2)) t mi mt vs1 t1 mi1 mt1 me)) :=
  PE_imp (pe_lc2 ok.calm ok.nd hi bk hv hg ht hi1 hg1 ht1 he hs hs1) fun σ H Q h => lc2_run kt ki1 kt1 ke hsub hsub1 h
end
end RT

set_option Elab.async false
set_option linter.all false
set_option maxRecDepth 100000
/-! CoreT: the check of an expression against its core, and what it gives. -/
set_option Elab.async false
set_option linter.all false
set_option maxRecDepth 100000
/-! CoreU: what is checked is read so. -/
namespace RT
open PySem PySem.Spec PyProof.Rows L2

/-- what is known around a def's body -/
structure Mo (C : Ct) (X : Cx) (cb : Cal) (K : Nat → Option D) (n : Nat) (tb : Tab) (TB : Nat → Option Fn) : Prop where
  rm : Room (2 * n + 1) X.A
  fn : ∀ x f d, tb.fns.lookup x = some f → TB f = some d → Call1 C X cb n f x d.io d.np
  cl : ∀ x c f d, tb.cls.lookup x = some (c, f) → TB f = some d → d.io = true → 0 < d.np → ClsK C X cb n c f x (d.np - 1)
  ci : ∀ x c f, tb.cls.lookup x = some (c, f) → X.mg x = some (.ref (C.clA c)) ∧ C.cs c = true
  gl : ∀ x g, tb.glb.lookup x = some g → ∃ u v d, X.mg x = some u ∧ RelV v u ∧ K g = some d ∧ ∀ F, Rep C F v d
  bl : ∀ x ∈ blNames, X.mg x = none
  fd : ∀ c f k, (c, f, k) ∈ tb.fld → ∃ p, SlX.Slot1 C.K (C.clA c) f p k
  pr : ∀ c x f, (c, x, f) ∈ tb.prp → C.cs c = true ∧ PropK C c f x ∧ CallR1 C X cb n f false 1
section
variable {C : Ct} {W : WX} {X : Cx} {cb : Cal} {K : Nat → Option D} {n : Nat} {tb : Tab} {TB : Nat → Option Fn} {N : List Str}
theorem CallR1.blk {f np : Nat} {io : Bool} {s : Shared} {H : Hp} {scope : Scope} {ce : Env} {fp : List Addr} (h : CallR1 C X cb n f io np) : CallR1 C (X.blk s H scope ce fp) cb n f io np := ⟨h.ar, h.ok⟩
theorem Mo.blk (m : Mo C X cb K n tb TB) {s : Shared} {H : Hp} {scope : Scope} {ce : Env} {fp : List Addr} : Mo C (X.blk s H scope ce fp) cb K n tb TB :=
  ⟨m.rm, fun x f d h1 h2 => let c := m.fn x f d h1 h2; ⟨c.mg, c.kp, c.dbg, c.ar, c.ok⟩, fun x c f d h1 h2 h3 h4 => let c := m.cl x c f d h1 h2 h3 h4; ⟨c.cs, c.mg, c.dbg, c.made, CallR1.blk c.fn⟩, m.ci, m.gl, m.bl, m.fd,
    fun c x f h => let q := m.pr c x f h; ⟨q.1, q.2.1, CallR1.blk q.2.2⟩⟩
def boB : Expr → Bool
  | .BoolOp _ _ _ => true
  | _ => false
def plainT : Expr → Bool
  | .BoolOp _ _ _ => false
  | .UnaryOp .Not _ _ => false
  | .IfExp _ _ _ _ => false
  | .Compare _ _ _ _ => false
  | _ => true
theorem plainT_ok {e : Expr} {env : Env} (h : plainT e = true) : ∀ whole, isTrue e env whole = (do let v ← whole; standAt e.pos; holding [v] (truthy v)) := by
  intro whole
  cases e <;> first | rfl | (cases h; done) | skip
  rename_i op x pos
  cases op <;> first | rfl | cases h
/-- an expression's three readings -/
def Rd3 (C : Ct) (W : WX) (X : Cx) (e : Expr) (m : Nv → R VL) : Prop := PE X e (tE C W m) ∧ (condB e = true → PT X e (tB C W m)) ∧ (boB e = true → PW X e (tB C W m))
theorem rd_val {e : Expr} {m : Nv → R VL} (h : PE X e (tE C W m)) (hp : plainT e = true) : Rd3 C W X e m := by
  refine ⟨h, fun _ => t_val h (plainT_ok hp), fun hb => ?_⟩
  cases e <;> first | (cases hb; done) | (cases hp; done)
theorem rd_cmp {e : Expr} {m : Nv → R VL} (h : PE X e (tE C W m)) (h2 : PT X e (tB C W m)) (hp : boB e = false) : Rd3 C W X e m := ⟨h, fun _ => h2, fun hb => by rw [hp] at hb; cases hb⟩
theorem glB_at {sc : Scope} {x : Str} (h : glB sc x = true) (hs : X.env.scope = sc) : Gl X x ∧ (x == ("__debug__" : Str)) = false := by
  unfold glB at h
  rw [Bool.and_eq_true, decide_eq_true_eq] at h
  exact ⟨by show X.env.scope.names.lookup x = _; rw [hs]; exact h.1, by simpa using h.2⟩
theorem visB_at {sc : Scope} {x : Str} (h : visB sc x = true) (hs : X.env.scope = sc) : Vis X.env.scope x ∧ (x == ("__debug__" : Str)) = false ∧ (x == ("__classdict__" : Str)) = false := by
  unfold visB at h
  rw [Bool.and_eq_true, Bool.and_eq_true] at h
  refine ⟨?_, by simpa using h.2.1, by simpa using h.2.2⟩
  rw [hs]
  have h1 := h.1
  split at h1
  · exact .inl (by assumption)
  · exact .inr (.inl (by assumption))
  · exact .inr (.inr (by assumption))
  · cases h1
theorem bl_at (m : Mo C X cb K n tb TB) {x : Str} (h : x ∈ blNames) : X.mg x = none := m.bl x h
theorem blt_ok (ok : XOk C W X) {bb : Blt} {x : Str} (h : bltN bb = some x) :
    (∃ id, (CallR X (.builtin id) (rBlt C bb) ∧ bootBuiltins x = some (.builtin id)) ∨ (CallR X (.type id) (rBlt C bb) ∧ bootBuiltins x = some (.type id))) ∧ x ∈ blNames ∧ x ≠ "__name__" := by
  cases bb <;> simp only [bltN, Option.some.injEq, reduceCtorEq] at h <;> subst h
  · exact ⟨⟨"len", .inl ⟨call_bltB ok.k ok.calm rfl, by decide +kernel⟩⟩, by decide +kernel, by decide +kernel⟩
  · exact ⟨⟨"tuple", .inr ⟨call_bltT ok.k ok.calm rfl, by decide +kernel⟩⟩, by decide +kernel, by decide +kernel⟩
  · exact ⟨⟨"list", .inr ⟨call_bltT ok.k ok.calm rfl, by decide +kernel⟩⟩, by decide +kernel, by decide +kernel⟩
  · exact ⟨⟨"int", .inr ⟨call_bltT ok.k ok.calm rfl, by decide +kernel⟩⟩, by decide +kernel, by decide +kernel⟩
  · exact ⟨⟨"all", .inl ⟨call_bltB ok.k ok.calm rfl, by decide +kernel⟩⟩, by decide +kernel, by decide +kernel⟩
  · exact ⟨⟨"any", .inl ⟨call_bltB ok.k ok.calm rfl, by decide +kernel⟩⟩, by decide +kernel, by decide +kernel⟩
  · exact ⟨⟨"max", .inl ⟨call_bltB ok.k ok.calm rfl, by decide +kernel⟩⟩, by decide +kernel, by decide +kernel⟩
  · exact ⟨⟨"min", .inl ⟨call_bltB ok.k ok.calm rfl, by decide +kernel⟩⟩, by decide +kernel, by decide +kernel⟩
  · exact ⟨⟨"abs", .inl ⟨call_bltB ok.k ok.calm rfl, by decide +kernel⟩⟩, by decide +kernel, by decide +kernel⟩
  · exact ⟨⟨"sum", .inl ⟨call_bltB ok.k ok.calm rfl, by decide +kernel⟩⟩, by decide +kernel, by decide +kernel⟩
  · exact ⟨⟨"sorted", .inl ⟨call_bltB ok.k ok.calm rfl, by decide +kernel⟩⟩, by decide +kernel, by decide +kernel⟩
  · exact ⟨⟨"divmod", .inl ⟨call_bltB ok.k ok.calm rfl, by decide +kernel⟩⟩, by decide +kernel, by decide +kernel⟩
  · exact ⟨⟨"max", .inl ⟨call_bltB ok.k ok.calm rfl, by decide +kernel⟩⟩, by decide +kernel, by decide +kernel⟩
  · exact ⟨⟨"min", .inl ⟨call_bltB ok.k ok.calm rfl, by decide +kernel⟩⟩, by decide +kernel, by decide +kernel⟩
/-- a builtin's name -/
theorem pe_bltN {x : Str} {p : Pos} {id : String} (hg : Gl X x) (hm : X.mg x = none) (hv : bootBuiltins x = some (.type id)) (hx : x ≠ "__name__") (hd : (x == ("__debug__" : Str)) = false) : PE X (.Name x p) (tC (.ty id)) :=
  ⟨fun pins s σ H Q I h => ld_blt I hg hm hv ⟨.ty id, H, I, rfl, h⟩ hx hd⟩
theorem tyE_ok {sc : Scope} {t : Ty} {e : Expr} (m : Mo C X cb K n tb TB) (hs : X.env.scope = sc) (h : isTyE tb sc t e = true) : PE X e (tC (tyV C t)) ∧ ∀ c, t = .cls c → C.cs c = true := by
  by_cases hn : ∃ x p, e = .Name x p
  case neg => cases e <;> first | exact absurd ⟨_, _, rfl⟩ hn | (cases t <;> exact absurd (show false = true from h) Bool.false_ne_true)
  obtain ⟨x, p, rfl⟩ := hn
  cases t
  case cls c =>
    have h : (glB sc x && (match tb.cls.lookup x with
      | some (c', _) => c == c'
      | none => false)) = true := h
    rw [Bool.and_eq_true] at h
    obtain ⟨hg, hd⟩ := glB_at h.1 hs
    have h2 := h.2
    split at h2
    · rename_i c' f hl
      obtain rfl := eq_of_beq h2
      obtain ⟨hm, hc⟩ := m.ci x c f hl
      exact ⟨⟨fun pins s σ H Q I q => ld_glob I hg hm ⟨.ref (C.clA c), H, I, rfl, q⟩ hd⟩, fun c0 z => by cases z; exact hc⟩
    · cases h2
  all_goals
    rw [show isTyE tb sc _ _ = (glB sc x && decide (tyN _ = some x)) from rfl, Bool.and_eq_true, decide_eq_true_eq] at h
    obtain ⟨hg, hd⟩ := glB_at h.1 hs
    have h2 := h.2
    simp only [tyN, Option.some.injEq] at h2
    subst h2
    exact ⟨pe_bltN hg (m.bl _ (by decide +kernel)) (by decide +kernel) (by decide +kernel) hd, fun c z => nomatch z⟩
theorem g_ok {cellOk : Str → Bool} {sc : Scope} (ok : XOk C W X) (m : Mo C X cb K n tb TB) (hN : X.N = N) (hs : X.env.scope = sc) (hc : ∀ x, cellOk x = true → X.fn x = true) : ∀ (t : T) (e : Expr), isG tb N cellOk sc t e = true → PG X e (gT C t)
  | .v i, e, h => by
    cases e <;> first | (exact absurd (show false = true from h) Bool.false_ne_true) | skip
    rename_i x p
    rw [isG, Bool.and_eq_true, decide_eq_true_eq, ← hN] at h
    obtain ⟨h1, h2⟩ := h
    split at h2
    · rename_i hl
      exact g_v ok.nd h1 (.inl (by rw [hs]; exact hl)) (.inr (by rw [hs]; exact hl))
    · rename_i hl
      exact g_v ok.nd h1 (.inr (by rw [hs]; exact hl)) (.inl (hc _ h2))
    · cases h2
  | .fld i c k, e, h => by
    cases e <;> first | (exact absurd (show false = true from h) Bool.false_ne_true) | skip
    rename_i o f p
    cases o <;> first | (exact absurd (show false = true from h) Bool.false_ne_true) | skip
    rename_i y py
    rw [isG, Bool.and_eq_true, Bool.and_eq_true, decide_eq_true_eq, decide_eq_true_eq, ← hN] at h
    obtain ⟨⟨h1, h2⟩, h3⟩ := h
    obtain ⟨v1, v2, v3⟩ := visB_at h2 hs
    exact g_f ok (pe_var h1 v1 v2 v3) (m.fd c f k h3)
  | .t ts, e, h => by
    cases e <;> first | (exact absurd (show false = true from h) Bool.false_ne_true) | skip
    rename_i es k p
    obtain ⟨h1, h2, h3⟩ := gs_ok ok m hN hs hc ts es h
    exact g_t ok h2 h1 h3
where
  gs_ok {cellOk : Str → Bool} {sc : Scope} (ok : XOk C W X) (m : Mo C X cb K n tb TB) (hN : X.N = N) (hs : X.env.scope = sc) (hc : ∀ x, cellOk x = true → X.fn x = true) : ∀ (ts : List T) (es : List Expr), isG.isGs tb N cellOk sc ts es = true → es.length = ts.length ∧ notStars es = true ∧ PGs X es (gTs C ts)
  | [], [], h => ⟨rfl, rfl, gs_nil⟩
  | t :: ts, e :: es, h => by
    rw [isG.isGs, Bool.and_eq_true, Bool.and_eq_true] at h
    obtain ⟨h1, h2, h3⟩ := gs_ok ok m hN hs hc ts es h.2
    refine ⟨by simp [h1], ?_, gs_cons h.1.1 (g_ok ok m hN hs hc t e h.1.2) h3⟩
    unfold notStars at h2 ⊢
    rw [List.all_cons, h.1.1, h2] <;> rfl
  | [], _ :: _, h => absurd (show false = true from h) Bool.false_ne_true
  | _ :: _, [], h => absurd (show false = true from h) Bool.false_ne_true
theorem e_one {op : BoolOp} {b : Expr} {pos : Pos} {t : TE} (h : PE X b t) : PE X (.BoolOp op [b] pos) t := ⟨fun pins s σ H Q I q => h.run pins s σ H Q I q⟩
theorem den_lc {x src : E} {vs : List Nat} {t : T} {ts : List E} : den cb K (.lc x vs t src ts) = lcM vs t (denI cb K src) (denT cb K ts) (den cb K x) := by
  funext e
  rw [den]
  unfold lcM
  cases denI cb K src e with
  | bad => rfl
  | exc c v e => rfl
  | ok p e1 => rfl
theorem den_dc {k x src : E} {vs : List Nat} {t : T} {ts : List E} : den cb K (.dc k x vs t src ts) = dcM vs t (denI cb K src) (denT cb K ts) (den cb K k) (den cb K x) := by
  funext e
  rw [den]
  unfold dcM
  cases denI cb K src e with
  | bad => rfl
  | exc c v e => rfl
  | ok p e1 => rfl
theorem denL_cons {a : E} {r : List E} (h : ∀ b, a ≠ .star b) : denL cb K (a :: r) = fun e => (den cb K a e).bind fun v e1 => (denL cb K r e1).bind fun vs e2 => .ok (v.set :: vs) e2 := by
  funext e
  cases a <;> first | rfl | exact absurd rfl (h _)
theorem den_isi {a : E} {t : Ty} (h : ∀ b, a ≠ .star b) : den cb K (.blt (.isi t) [a]) = one (den cb K a) fun x e => (match isiD t x with
    | some q => .ok (.fz (.bl q)) e
    | none => .bad) := by
  funext e
  rw [den, denL_cons h]
  dsimp only
  unfold one
  cases den cb K a e with
  | bad => rfl
  | exc c v e => rfl
  | ok v e1 =>
    show (match [v.set].mapM (lkv e1) with
      | some ds => (match bltop (.isi t) ds with
        | some p => .ok (rof p) e1
        | none => .bad)
      | none => .bad : R VL) = (match lkv e1 v with
      | some x => (match isiD t x with
        | some q => .ok (.fz (.bl q)) e1
        | none => .bad)
      | none => .bad : R VL)
    have e2 : [v.set].mapM (lkv e1) = (lkv e1 v).map fun d => [d] := by
      rw [List.mapM_cons, lkv_set]
      cases lkv e1 v <;> rfl
    rw [e2]
    cases lkv e1 v with
    | none => rfl
    | some d =>
      show (match (isiD t d).map (fun b => (false, D.bl b)) with
        | some p => .ok (rof p) e1
        | none => .bad : R VL) = (match isiD t d with
        | some q => .ok (.fz (.bl q)) e1
        | none => .bad : R VL)
      cases isiD t d <;> rfl
theorem denT_one {a : E} : denT cb K [a] = tst (den cb K a) := by
  funext e
  rw [denT]
  unfold tst
  cases den cb K a e with
  | bad => rfl
  | exc c v e => rfl
  | ok v e1 =>
    simp only [R.bind]
    cases boolV e1 v with
    | none => rfl
    | some b => cases b <;> rfl
end
end RT

set_option Elab.async false
set_option linter.all false
set_option maxRecDepth 100000
set_option maxHeartbeats 1000000
/-! CoreV: expressions: the whole. -/
namespace RT
open PySem PySem.Spec PyProof.Rows L2
variable (C : Ct) (cb : Cal) (K : Nat → Option D) (n : Nat) (tb : Tab) (TB : Nat → Option Fn) (N : List Str)
def GoodE (x : E) : Prop := ∀ (X : Cx) (W : WX) (sc : Scope) (e : Expr), XOk C W X → Mo C X cb K n tb TB → X.N = N → X.env.scope = sc → isE tb TB N x sc e = true → Rd3 C W X e (den cb K x)
def GoodL (x : List E) : Prop := ∀ (X : Cx) (W : WX) (sc : Scope) (es : List Expr), XOk C W X → Mo C X cb K n tb TB → X.N = N → X.env.scope = sc → isL tb TB N x sc es = true → PA X es (tL C W (denL cb K x))
def GoodO (x : Option E) : Prop := ∀ (X : Cx) (W : WX) (sc : Scope) (e : Option Expr), XOk C W X → Mo C X cb K n tb TB → X.N = N → X.env.scope = sc → isO tb TB N x sc e = true → PO X e (tG C W vEq (denO cb K x))
def GoodT (x : List E) : Prop := ∀ (X : Cx) (W : WX) (sc : Scope) (es : List Expr), XOk C W X → Mo C X cb K n tb TB → X.N = N → X.env.scope = sc → isT tb TB N x sc es = true → PTs X es (tG C W vEq (denT cb K x))
def GoodI (x : E) : Prop := ∀ (X : Cx) (W : WX) (sc : Scope) (tg e : Expr), XOk C W X → Mo C X cb K n tb TB → X.N = N → X.env.scope = sc → isI tb TB N x sc tg e = true → PI X tg e (tI C W (denI cb K x))
theorem inSub {x : Str} {sc : Scope} {X : Cx} (h : glB sc x = true) (hs : X.env.scope = sc) : Gl X x := (glB_at h hs).1
theorem PTs_imp {X : Cx} {es : List Expr} {t t' : TT} (h : PTs X es t) (k : ∀ σ H Q, t' σ H Q → t σ H Q) : PTs X es t' := ⟨fun pins s σ H Q I q => h.run pins s σ H Q I (k σ H Q q)⟩
theorem pe_no {C : Ct} {W : WX} {X : Cx} {e : Expr} : PE X e (tE C W fun _ => .bad) := ⟨fun pins s σ H Q I ⟨_, _, _, _, _, q⟩ => q.elim⟩
theorem pt_no {C : Ct} {W : WX} {X : Cx} {e : Expr} {m : Nv → R VL} (h : ∀ e, m e = .bad) : PT X e (tB C W m) := ⟨fun pins s σ H Q I ⟨_, _, _, n, _, q⟩ => by
  unfold tst at q
  rw [h n] at q
  exact q.elim⟩
theorem pw_no {C : Ct} {W : WX} {X : Cx} {e : Expr} {m : Nv → R VL} (h : ∀ e, m e = .bad) : PW X e (tB C W m) := ⟨fun wh pins s σ H Q I ⟨_, _, _, n, _, q⟩ => by
  unfold tst at q
  rw [h n] at q
  exact q.elim⟩
theorem den_fld {cb : Cal} {K : Nat → Option D} {a : E} {c k : Nat} : den cb K (.fld a c k) = one (den cb K a) fun x e => (match x with
    | .obj c' fs => if c = c' then (match fs[k]? with
      | some (some d) => .ok (.fz d) e
      | _ => .bad) else .bad
    | _ => .bad) := by
  funext e
  rw [den]
  unfold one
  cases den cb K a e with
  | bad => rfl
  | exc c v e => rfl
  | ok v e1 =>
    simp only [R.bind]
    cases lkv e1 v with
    | none => rfl
    | some d => cases d <;> rfl
theorem notStar_ne {a : E} {sc : Scope} {x : Expr} {tb : Tab} {TB : Nat → Option Fn} {N : List Str} (h : isE tb TB N a sc x = true) : ∀ b, a ≠ .star b := fun b z => by
  subst z
  cases x <;> exact absurd (show false = true from h) Bool.false_ne_true
theorem own_snd (N : List Str) : ∀ vs : List Nat, (vs.map fun i => ((N[i]?).getD ("" : Str), i)).map (·.2) = vs
  | [] => rfl
  | v :: vs => by rw [List.map_cons, List.map_cons, own_snd N vs]
theorem isZ_eq {a : E} (h : isZ a = true) : a = .int 0 := by
  cases a <;> first | (cases h; done) | skip
  rename_i i
  obtain rfl : i = 0 := of_decide_eq_true h
  rfl
mutual
theorem isE_ok : ∀ x : E, GoodE C cb K n tb TB N x
  | .nvr => fun X W sc e ok mo hN hs h => ⟨pe_no, fun _ => pt_no fun _ => rfl, fun _ => pw_no fun _ => rfl⟩
  | .star _ => fun X W sc e ok mo hN hs h => by cases e <;> exact absurd (show false = true from h) Bool.false_ne_true
  | .fnv _ => fun X W sc e ok mo hN hs h => by cases e <;> exact absurd (show false = true from h) Bool.false_ne_true
  | .dn => fun X W sc e ok mo hN hs h => by
    match e, h with
    | .Dict [] [] p, _ => exact rd_val e_dn rfl
  | .rng _ _ _ => fun X W sc e ok mo hN hs h => by cases e <;> exact absurd (show false = true from h) Bool.false_ne_true
  | .enm _ => fun X W sc e ok mo hN hs h => by cases e <;> exact absurd (show false = true from h) Bool.false_ne_true
  | .zip _ _ => fun X W sc e ok mo hN hs h => by cases e <;> exact absurd (show false = true from h) Bool.false_ne_true
  | .its _ => fun X W sc e ok mo hN hs h => by cases e <;> exact absurd (show false = true from h) Bool.false_ne_true
  | .non => fun X W sc e ok mo hN hs h => by
    cases e <;> first | (exact absurd (show false = true from h) Bool.false_ne_true) | skip
    rename_i c k p
    cases c <;> first | (exact absurd (show false = true from h) Bool.false_ne_true) | skip
    exact rd_val (e_const (fun _ => rfl) (fun _ => .non) pe_non) rfl
  | .bl b => fun X W sc e ok mo hN hs h => by
    cases e <;> first | (exact absurd (show false = true from h) Bool.false_ne_true) | skip
    rename_i c k p
    cases c <;> first | (exact absurd (show false = true from h) Bool.false_ne_true) | skip
    rename_i b'
    obtain rfl : b = b' := eq_of_beq (show (b == b') = true from h)
    exact rd_val (e_const (fun _ => rfl) (fun _ => .bl _) pe_bl) rfl
  | .int i => fun X W sc e ok mo hN hs h => by
    cases e <;> first | (exact absurd (show false = true from h) Bool.false_ne_true) | skip
    rename_i c k p
    cases c <;> first | (exact absurd (show false = true from h) Bool.false_ne_true) | skip
    rename_i j
    obtain rfl : i = j := of_decide_eq_true (show decide (i = j) = true from h)
    exact rd_val (e_const (fun _ => rfl) (fun _ => .int _) pe_int) rfl
  | .str x => fun X W sc e ok mo hN hs h => by
    cases e <;> first | (exact absurd (show false = true from h) Bool.false_ne_true) | skip
    rename_i c k p
    cases c <;> first | (exact absurd (show false = true from h) Bool.false_ne_true) | skip
    rename_i y
    obtain rfl : x = y := eq_of_beq (show (x == y) = true from h)
    exact rd_val (e_const (fun _ => rfl) (fun _ => .str _) pe_str) rfl
  | .var i => fun X W sc e ok mo hN hs h => by
    cases e <;> first | (exact absurd (show false = true from h) Bool.false_ne_true) | skip
    rename_i x p
    obtain ⟨h1, h2⟩ := (Bool.and_eq_true _ _).mp (show (decide (N[i]? = some x) && visB sc x) = true from h)
    obtain ⟨v1, v2, v3⟩ := visB_at h2 hs
    exact rd_val (e_var (fun _ => rfl) (pe_var (by rw [hN]; exact of_decide_eq_true h1) v1 v2 v3)) rfl
  | .glb g => fun X W sc e ok mo hN hs h => by
    cases e <;> first | (exact absurd (show false = true from h) Bool.false_ne_true) | skip
    rename_i x p
    obtain ⟨h1, h2⟩ := (Bool.and_eq_true _ _).mp (show (glB sc x && decide (tb.glb.lookup x = some g)) = true from h)
    obtain ⟨hg, hd⟩ := glB_at h1 hs
    obtain ⟨u, v, d, hm, hv, hk, hr⟩ := mo.gl x g (of_decide_eq_true h2)
    refine rd_val (e_const (v := v) (d := d) (fun m => ?_) hr ⟨fun pins s σ H Q I q => ld_glob I hg hm ⟨v, H, I, hv, q⟩ hd⟩) rfl
    rw [den, hk]
  | .tup as => fun X W sc e ok mo hN hs h => by
    cases e <;> first | (exact absurd (show false = true from h) Bool.false_ne_true) | skip
    exact rd_val (e_tup (isL_ok as X W sc _ ok mo hN hs h)) rfl
  | .lst as => fun X W sc e ok mo hN hs h => by
    cases e <;> first | (exact absurd (show false = true from h) Bool.false_ne_true) | skip
    exact rd_val (e_lst (isL_ok as X W sc _ ok mo hN hs h)) rfl
  | .bin op a b => fun X W sc e ok mo hN hs h => by
    cases e <;> first | (exact absurd (show false = true from h) Bool.false_ne_true) | skip
    rename_i x o y p
    obtain ⟨h1, h3⟩ := (Bool.and_eq_true _ _).mp (show (decide (o = opr op) && isE tb TB N a sc x && isE tb TB N b sc y) = true from h)
    obtain ⟨h1, h2⟩ := (Bool.and_eq_true _ _).mp h1
    obtain rfl := of_decide_eq_true h1
    exact rd_val (e_bin ok op (isE_ok a X W sc x ok mo hN hs h2).1 (isE_ok b X W sc y ok mo hN hs h3).1) rfl
  | .neg a => fun X W sc e ok mo hN hs h => by
    cases e <;> first | (exact absurd (show false = true from h) Bool.false_ne_true) | skip
    rename_i op x p
    cases op <;> first | (exact absurd (show false = true from h) Bool.false_ne_true) | skip
    exact rd_val (e_neg (isE_ok a X W sc x ok mo hN hs h).1) rfl
  | .cmp op a b => fun X W sc e ok mo hN hs h => by
    cases e <;> first | (exact absurd (show false = true from h) Bool.false_ne_true) | skip
    rename_i x os ys p
    match os, ys, h with
    | [o], [y], h =>
      obtain ⟨h1, h4⟩ := (Bool.and_eq_true _ _).mp (show (decide (o = cpr op) && !(behindInMarks (cpr op) y) && isE tb TB N a sc x && isE tb TB N b sc y) = true from h)
      obtain ⟨h1, h3⟩ := (Bool.and_eq_true _ _).mp h1
      obtain ⟨h1, h2⟩ := (Bool.and_eq_true _ _).mp h1
      obtain rfl := of_decide_eq_true h1
      have hb : behindInMarks (cpr op) y = false := by simpa using h2
      exact rd_cmp (e_cmp ok op hb (isE_ok a X W sc x ok mo hN hs h3).1 (isE_ok b X W sc y ok mo hN hs h4).1) (t_cmp ok op hb (isE_ok a X W sc x ok mo hN hs h3).1 (isE_ok b X W sc y ok mo hN hs h4).1) rfl
    | [], _, h => exact absurd (show false = true from h) Bool.false_ne_true
    | [_], [], h => exact absurd (show false = true from h) Bool.false_ne_true
    | [_], _ :: _ :: _, h => exact absurd (show false = true from h) Bool.false_ne_true
    | _ :: _ :: _, _, h => exact absurd (show false = true from h) Bool.false_ne_true
  | .chn q1 q2 a b c => fun X W sc e ok mo hN hs h => by
    cases e <;> first | (exact absurd (show false = true from h) Bool.false_ne_true) | skip
    rename_i x os ys p
    match os, ys, h with
    | [o1, o2], [y, z], h =>
      obtain ⟨h1, h6⟩ := (Bool.and_eq_true _ _).mp (show (decide (o1 = cpr q1) && decide (o2 = cpr q2) && !(behindInMarks (cpr q2) z) && isE tb TB N a sc x && isE tb TB N b sc y && isE tb TB N c sc z) = true from h)
      obtain ⟨h1, h5⟩ := (Bool.and_eq_true _ _).mp h1
      obtain ⟨h1, h4⟩ := (Bool.and_eq_true _ _).mp h1
      obtain ⟨h1, h3⟩ := (Bool.and_eq_true _ _).mp h1
      obtain ⟨h1, h2⟩ := (Bool.and_eq_true _ _).mp h1
      obtain rfl := of_decide_eq_true h1
      obtain rfl := of_decide_eq_true h2
      have hb : behindInMarks (cpr q2) z = false := by simpa using h3
      exact rd_cmp (e_chn ok q1 q2 hb (isE_ok a X W sc x ok mo hN hs h4).1 (isE_ok b X W sc y ok mo hN hs h5).1 (isE_ok c X W sc z ok mo hN hs h6).1) (t_chn ok q1 q2 hb (isE_ok a X W sc x ok mo hN hs h4).1 (isE_ok b X W sc y ok mo hN hs h5).1 (isE_ok c X W sc z ok mo hN hs h6).1) rfl
    | [], _, h => exact absurd (show false = true from h) Bool.false_ne_true
    | [_], [], h => exact absurd (show false = true from h) Bool.false_ne_true
    | [_], [_], h => exact absurd (show false = true from h) Bool.false_ne_true
    | [_], _ :: _ :: _, h => exact absurd (show false = true from h) Bool.false_ne_true
    | [_, _], [], h => exact absurd (show false = true from h) Bool.false_ne_true
    | [_, _], [_], h => exact absurd (show false = true from h) Bool.false_ne_true
    | [_, _], _ :: _ :: _ :: _, h => exact absurd (show false = true from h) Bool.false_ne_true
    | _ :: _ :: _ :: _, _, h => exact absurd (show false = true from h) Bool.false_ne_true
  | .and a b => fun X W sc e ok mo hN hs h => by
    cases e <;> first | (exact absurd (show false = true from h) Bool.false_ne_true) | skip
    rename_i op es p
    cases op <;> first | (exact absurd (show false = true from h) Bool.false_ne_true) | skip
    match es, h with
    | x :: y :: rest, h =>
      have key : condB x = true ∧ isE tb TB N a sc x = true ∧ Rd3 C W X (.BoolOp .And (y :: rest) p) (den cb K b) := by
        cases rest with
        | nil =>
          obtain ⟨h1, h3⟩ := (Bool.and_eq_true _ _).mp (show (condB x && isE tb TB N a sc x && (condB y && isE tb TB N b sc y)) = true from h)
          obtain ⟨h1, h2⟩ := (Bool.and_eq_true _ _).mp h1
          obtain ⟨h3, h4⟩ := (Bool.and_eq_true _ _).mp h3
          have rb := isE_ok b X W sc y ok mo hN hs h4
          have pw : PW X (.BoolOp .And [y] p) (tB C W (den cb K b)) := pw_and1 (rb.2.1 h3)
          exact ⟨h1, h2, e_one rb.1, fun _ => pw.pt, fun _ => pw⟩
        | cons z zs =>
          obtain ⟨h1, h3⟩ := (Bool.and_eq_true _ _).mp (show (condB x && isE tb TB N a sc x && isE tb TB N b sc (.BoolOp .And (y :: z :: zs) p)) = true from h)
          obtain ⟨h1, h2⟩ := (Bool.and_eq_true _ _).mp h1
          exact ⟨h1, h2, isE_ok b X W sc _ ok mo hN hs h3⟩
      obtain ⟨h1, h2, rb⟩ := key
      have ra := isE_ok a X W sc x ok mo hN hs h2
      have pw : PW X (.BoolOp .And (x :: y :: rest) p) (tB C W (den cb K (.and a b))) := w_and (ra.2.1 h1) (rb.2.2 rfl)
      exact ⟨e_and ra.1 rb.1, fun _ => pw.pt, fun _ => pw⟩
    | [], h => exact absurd (show false = true from h) Bool.false_ne_true
    | [_], h => exact absurd (show false = true from h) Bool.false_ne_true
  | .or a b => fun X W sc e ok mo hN hs h => by
    cases e <;> first | (exact absurd (show false = true from h) Bool.false_ne_true) | skip
    rename_i op es p
    cases op <;> first | (exact absurd (show false = true from h) Bool.false_ne_true) | skip
    match es, h with
    | x :: y :: rest, h =>
      have key : condB x = true ∧ isE tb TB N a sc x = true ∧ Rd3 C W X (.BoolOp .Or (y :: rest) p) (den cb K b) := by
        cases rest with
        | nil =>
          obtain ⟨h1, h3⟩ := (Bool.and_eq_true _ _).mp (show (condB x && isE tb TB N a sc x && (condB y && isE tb TB N b sc y)) = true from h)
          obtain ⟨h1, h2⟩ := (Bool.and_eq_true _ _).mp h1
          obtain ⟨h3, h4⟩ := (Bool.and_eq_true _ _).mp h3
          have rb := isE_ok b X W sc y ok mo hN hs h4
          have pw : PW X (.BoolOp .Or [y] p) (tB C W (den cb K b)) := pw_or1 (rb.2.1 h3)
          exact ⟨h1, h2, e_one rb.1, fun _ => pw.pt, fun _ => pw⟩
        | cons z zs =>
          obtain ⟨h1, h3⟩ := (Bool.and_eq_true _ _).mp (show (condB x && isE tb TB N a sc x && isE tb TB N b sc (.BoolOp .Or (y :: z :: zs) p)) = true from h)
          obtain ⟨h1, h2⟩ := (Bool.and_eq_true _ _).mp h1
          exact ⟨h1, h2, isE_ok b X W sc _ ok mo hN hs h3⟩
      obtain ⟨h1, h2, rb⟩ := key
      have ra := isE_ok a X W sc x ok mo hN hs h2
      have pw : PW X (.BoolOp .Or (x :: y :: rest) p) (tB C W (den cb K (.or a b))) := w_or (ra.2.1 h1) (rb.2.2 rfl)
      exact ⟨e_or ra.1 rb.1, fun _ => pw.pt, fun _ => pw⟩
    | [], h => exact absurd (show false = true from h) Bool.false_ne_true
    | [_], h => exact absurd (show false = true from h) Bool.false_ne_true
  | .not a => fun X W sc e ok mo hN hs h => by
    cases e <;> first | (exact absurd (show false = true from h) Bool.false_ne_true) | skip
    rename_i op x p
    cases op <;> first | (exact absurd (show false = true from h) Bool.false_ne_true) | skip
    obtain ⟨h1, h2⟩ := (Bool.and_eq_true _ _).mp (show (condB x && isE tb TB N a sc x) = true from h)
    have ra := isE_ok a X W sc x ok mo hN hs h2
    exact rd_cmp (e_not ra.1) (t_not (ra.2.1 h1)) rfl
  | .ife c a b => fun X W sc e ok mo hN hs h => by
    cases e <;> first | (exact absurd (show false = true from h) Bool.false_ne_true) | skip
    rename_i t x y p
    obtain ⟨h1, h4⟩ := (Bool.and_eq_true _ _).mp (show (condB t && isE tb TB N c sc t && isE tb TB N a sc x && isE tb TB N b sc y) = true from h)
    obtain ⟨h1, h3⟩ := (Bool.and_eq_true _ _).mp h1
    obtain ⟨h1, h2⟩ := (Bool.and_eq_true _ _).mp h1
    exact ⟨e_ife ((isE_ok c X W sc t ok mo hN hs h2).2.1 h1) (isE_ok a X W sc x ok mo hN hs h3).1 (isE_ok b X W sc y ok mo hN hs h4).1, fun z => (Bool.false_ne_true z).elim, fun z => (Bool.false_ne_true z).elim⟩
  | .idx a i => fun X W sc e ok mo hN hs h => by
    cases e <;> first | (exact absurd (show false = true from h) Bool.false_ne_true) | skip
    rename_i x s p
    obtain ⟨h1, h3⟩ := (Bool.and_eq_true _ _).mp (show (notSl s && isE tb TB N a sc x && isE tb TB N i sc s) = true from h)
    obtain ⟨h1, h2⟩ := (Bool.and_eq_true _ _).mp h1
    exact rd_val (e_idx ok (fun l u st q z => by rw [z] at h1; cases h1) (isE_ok a X W sc x ok mo hN hs h2).1 (isE_ok i X W sc s ok mo hN hs h3).1) rfl
  | .slc a lo hi => fun X W sc e ok mo hN hs h => by
    cases e <;> first | (exact absurd (show false = true from h) Bool.false_ne_true) | skip
    rename_i x s p
    cases s <;> first | (exact absurd (show false = true from h) Bool.false_ne_true) | skip
    rename_i l u st q
    cases st <;> first | (exact absurd (show false = true from h) Bool.false_ne_true) | skip
    obtain ⟨h1, h3⟩ := (Bool.and_eq_true _ _).mp (show (isE tb TB N a sc x && isO tb TB N lo sc l && isO tb TB N hi sc u) = true from h)
    obtain ⟨h1, h2⟩ := (Bool.and_eq_true _ _).mp h1
    exact rd_val (e_slc ok (isE_ok a X W sc x ok mo hN hs h1).1 (isO_ok lo X W sc l ok mo hN hs h2) (isO_ok hi X W sc u ok mo hN hs h3)) rfl
  | .rev a => fun X W sc e ok mo hN hs h => by
    cases e <;> first | (exact absurd (show false = true from h) Bool.false_ne_true) | skip
    rename_i x s p
    cases s <;> first | (exact absurd (show false = true from h) Bool.false_ne_true) | skip
    rename_i l u st q
    match l, u, st, h with
    | none, none, some (.UnaryOp .USub (.Constant (.int 1) k p1) p2), h => exact rd_val (e_rev ok (isE_ok a X W sc x ok mo hN hs h).1) rfl
  | .blt bb as => fun X W sc e ok mo hN hs h => by
    cases e <;> first | (exact absurd (show false = true from h) Bool.false_ne_true) | skip
    rename_i fn es kw p
    match fn, es, kw, h with
    | .Name f q, x :: xs, [], h =>
      obtain ⟨h1, h2⟩ := (Bool.and_eq_true _ _).mp (show (glB sc f && bltChk (isTyE tb sc) bb f x xs as.length (isL tb TB N as sc [x]) (isL tb TB N as sc (x :: xs))) = true from h)
      obtain ⟨hg, hd⟩ := glB_at h1 hs
      unfold bltChk at h2
      split at h2
      · rename_i t y
        obtain ⟨h2, h7⟩ := (Bool.and_eq_true _ _).mp h2
        obtain ⟨h2, h6⟩ := (Bool.and_eq_true _ _).mp h2
        obtain ⟨h2, h5⟩ := (Bool.and_eq_true _ _).mp h2
        obtain ⟨h2, h4⟩ := (Bool.and_eq_true _ _).mp h2
        obtain ⟨h2, h3⟩ := (Bool.and_eq_true _ _).mp h2
        obtain rfl := eq_of_beq h2
        have il := isE1_ok as
        have h3 := of_decide_eq_true h3
        match as, h3, h6, il with
        | [a], _, h6, il =>
          have hns : ∀ b, a ≠ .star b := fun b z => by
            subst z
            cases x <;> first | (exact absurd (show false = true from h6) Bool.false_ne_true) | (cases h4; done)
          have h6 : (notStar x && isE tb TB N a sc x && true) = true := by cases a <;> first | exact h6 | exact absurd rfl (hns _)
          have h6 := ((Bool.and_eq_true _ _).mp ((Bool.and_eq_true _ _).mp h6).1).2
          rw [den_isi hns]
          obtain ⟨ty, tc⟩ := tyE_ok mo hs h7
          exact rd_val (e_isi (tv := tC .non) ok tc hg (mo.bl _ (by decide +kernel)) (il a rfl X W sc x ok mo hN hs h6).1 ty h4 h5) rfl
      · obtain ⟨h2, h4⟩ := (Bool.and_eq_true _ _).mp h2
        obtain ⟨h2, h3⟩ := (Bool.and_eq_true _ _).mp h2
        obtain ⟨⟨id, hc⟩, hb, hx⟩ := blt_ok ok (of_decide_eq_true h2)
        exact rd_val (e_blt hc hg (mo.bl f hb) hx hd h3 (isL_ok as X W sc _ ok mo hN hs h4)) rfl
  | .call f none as => fun X W sc e ok mo hN hs h => by
    cases e <;> first | (exact absurd (show false = true from h) Bool.false_ne_true) | skip
    rename_i fn es kw p
    match fn, es, kw, h with
    | .Name x q, y :: ys, [], h =>
      obtain ⟨h1, h5⟩ := (Bool.and_eq_true _ _).mp (show (glB sc x && decide (tb.fns.lookup x = some f) && (match TB f with
        | some d => !d.io
        | none => false) && (y :: ys).all notStar && isL tb TB N as sc (y :: ys)) = true from h)
      obtain ⟨h1, h4⟩ := (Bool.and_eq_true _ _).mp h1
      obtain ⟨h1, h3⟩ := (Bool.and_eq_true _ _).mp h1
      obtain ⟨h1, h2⟩ := (Bool.and_eq_true _ _).mp h1
      cases hT : TB f with
      | none => rw [hT] at h3; exact absurd h3 Bool.false_ne_true
      | some d =>
        rw [hT] at h3
        have hio : d.io = false := by simpa using h3
        have c1 := mo.fn x f d (of_decide_eq_true h2) hT
        rw [hio] at c1
        exact rd_val (e_call ok (mo.rm.mono (Nat.le_succ _)) c1 (glB_at h1 hs).1 h4 (isL_ok as X W sc _ ok mo hN hs h5)) rfl
  | .callF f a => fun X W sc e ok mo hN hs h => by
    cases e <;> first | (exact absurd (show false = true from h) Bool.false_ne_true) | skip
    rename_i fn es kw p
    match fn, es, kw, h with
    | .Name x q, [y], [], h =>
      obtain ⟨h1, h5⟩ := (Bool.and_eq_true _ _).mp (show (glB sc x && decide (tb.fns.lookup x = some f) && (match TB f with
        | some d => d.io
        | none => false) && notStar y && isE tb TB N a sc y) = true from h)
      obtain ⟨h1, h4⟩ := (Bool.and_eq_true _ _).mp h1
      obtain ⟨h1, h3⟩ := (Bool.and_eq_true _ _).mp h1
      obtain ⟨h1, h2⟩ := (Bool.and_eq_true _ _).mp h1
      cases hT : TB f with
      | none => rw [hT] at h3; exact absurd h3 Bool.false_ne_true
      | some d =>
        rw [hT] at h3
        have hio : d.io = true := h3
        have c1 := mo.fn x f d (of_decide_eq_true h2) hT
        rw [hio] at c1
        exact rd_val (e_callF ok (mo.rm.mono (Nat.le_succ _)) c1 (glB_at h1 hs).1 h4 (isE_ok a X W sc y ok mo hN hs h5).1) rfl
  | .call f (some i) as => fun X W sc e ok mo hN hs h => by
    cases e <;> first | (exact absurd (show false = true from h) Bool.false_ne_true) | skip
    rename_i fn es kw p
    match fn, es, kw, h with
    | .Name x q, .Name y q2 :: ys, [], h =>
      obtain ⟨h1, h7⟩ := (Bool.and_eq_true _ _).mp (show (glB sc x && decide (tb.fns.lookup x = some f) && (match TB f with
        | some d => d.io
        | none => false) && decide (N[i]? = some y) && visB sc y && ys.all notStar && isL tb TB N as sc ys) = true from h)
      obtain ⟨h1, h6⟩ := (Bool.and_eq_true _ _).mp h1
      obtain ⟨h1, h5⟩ := (Bool.and_eq_true _ _).mp h1
      obtain ⟨h1, h4⟩ := (Bool.and_eq_true _ _).mp h1
      obtain ⟨h1, h3⟩ := (Bool.and_eq_true _ _).mp h1
      obtain ⟨h1, h2⟩ := (Bool.and_eq_true _ _).mp h1
      cases hT : TB f with
      | none => rw [hT] at h3; exact absurd h3 Bool.false_ne_true
      | some d =>
        rw [hT] at h3
        have hio : d.io = true := h3
        have c1 := mo.fn x f d (of_decide_eq_true h2) hT
        rw [hio] at c1
        obtain ⟨v1, v2, v3⟩ := visB_at h5 hs
        exact rd_val (e_callIo ok (mo.rm.mono (Nat.le_succ _)) c1 (glB_at h1 hs).1 (pe_var (by rw [hN]; exact of_decide_eq_true h4) v1 v2 v3) h6 (isL_ok as X W sc _ ok mo hN hs h7)) rfl
  | .callL f i as => fun X W sc e ok mo hN hs h => by
    cases e <;> first | (exact absurd (show false = true from h) Bool.false_ne_true) | skip
    rename_i fn es kw p
    match fn, es, kw, h with
    | .Name x q, .Name y q2 :: ys, [], h =>
      obtain ⟨h1, h7⟩ := (Bool.and_eq_true _ _).mp (show (glB sc x && decide (tb.fns.lookup x = some f) && (match TB f with
        | some d => d.io
        | none => false) && decide (N[i]? = some y) && visB sc y && ys.all notStar && isL tb TB N as sc ys) = true from h)
      obtain ⟨h1, h6⟩ := (Bool.and_eq_true _ _).mp h1
      obtain ⟨h1, h5⟩ := (Bool.and_eq_true _ _).mp h1
      obtain ⟨h1, h4⟩ := (Bool.and_eq_true _ _).mp h1
      obtain ⟨h1, h3⟩ := (Bool.and_eq_true _ _).mp h1
      obtain ⟨h1, h2⟩ := (Bool.and_eq_true _ _).mp h1
      cases hT : TB f with
      | none => rw [hT] at h3; exact absurd h3 Bool.false_ne_true
      | some d =>
        rw [hT] at h3
        have hio : d.io = true := h3
        have c1 := mo.fn x f d (of_decide_eq_true h2) hT
        rw [hio] at c1
        obtain ⟨v1, v2, v3⟩ := visB_at h5 hs
        exact rd_val (e_callL ok (mo.rm.mono (Nat.le_succ _)) c1 (glB_at h1 hs).1 (pe_var (by rw [hN]; exact of_decide_eq_true h4) v1 v2 v3) h6 (isL_ok as X W sc _ ok mo hN hs h7)) rfl
  | .new c f as => fun X W sc e ok mo hN hs h => by
    cases e <;> first | (exact absurd (show false = true from h) Bool.false_ne_true) | skip
    rename_i fn es kw p
    match fn, es, kw, h with
    | .Name x q, y :: ys, [], h =>
      obtain ⟨h1, h5⟩ := (Bool.and_eq_true _ _).mp (show (glB sc x && decide (tb.cls.lookup x = some (c, f)) && (match TB f with
        | some d => d.io && decide (0 < d.np)
        | none => false) && (y :: ys).all notStar && isL tb TB N as sc (y :: ys)) = true from h)
      obtain ⟨h1, h4⟩ := (Bool.and_eq_true _ _).mp h1
      obtain ⟨h1, h3⟩ := (Bool.and_eq_true _ _).mp h1
      obtain ⟨h1, h2⟩ := (Bool.and_eq_true _ _).mp h1
      cases hT : TB f with
      | none => rw [hT] at h3; exact absurd h3 Bool.false_ne_true
      | some d =>
        rw [hT] at h3
        obtain ⟨h3, h6⟩ := (Bool.and_eq_true _ _).mp h3
        have ck := mo.cl x c f d (of_decide_eq_true h2) hT h3 (of_decide_eq_true h6)
        exact rd_val (e_new ok mo.rm ck (glB_at h1 hs).1 h4 (isL_ok as X W sc _ ok mo hN hs h5)) rfl
  | .fld a c k => fun X W sc e ok mo hN hs h => by
    cases e <;> first | (exact absurd (show false = true from h) Bool.false_ne_true) | skip
    rename_i x m p
    obtain ⟨h1, h3⟩ := (Bool.and_eq_true _ _).mp (show (plainO x && decide ((c, m, k) ∈ tb.fld) && isE tb TB N a sc x) = true from h)
    obtain ⟨h1, h2⟩ := (Bool.and_eq_true _ _).mp h1
    rw [den_fld]
    exact rd_val (e_fld ok (mo.fd c m k (of_decide_eq_true h2)) h1 (isE_ok a X W sc x ok mo hN hs h3).1) rfl
  | .prop a c f => fun X W sc e ok mo hN hs h => by
    cases e <;> first | (exact absurd (show false = true from h) Bool.false_ne_true) | skip
    rename_i x m p
    obtain ⟨h1, h3⟩ := (Bool.and_eq_true _ _).mp (show (plainO x && decide ((c, m, f) ∈ tb.prp) && isE tb TB N a sc x) = true from h)
    obtain ⟨h1, h2⟩ := (Bool.and_eq_true _ _).mp h1
    obtain ⟨k1, k2, k3⟩ := mo.pr c m f (of_decide_eq_true h2)
    exact rd_val (e_prop ok mo.rm k1 k2 k3 h1 (isE_ok a X W sc x ok mo hN hs h3).1) rfl
  | .pop i none => fun X W sc e ok mo hN hs h => by
    cases e <;> first | (exact absurd (show false = true from h) Bool.false_ne_true) | skip
    rename_i fn es kw p
    match fn, es, kw, h with
    | .Attribute (.Name y q) m apos, [], [], h =>
      obtain ⟨h1, h4⟩ := (Bool.and_eq_true _ _).mp (show (m == ("pop" : Str) && decide (N[i]? = some y) && visB sc y && lnB apos p) = true from h)
      obtain ⟨h1, h3⟩ := (Bool.and_eq_true _ _).mp h1
      obtain ⟨h1, h2⟩ := (Bool.and_eq_true _ _).mp h1
      obtain rfl := eq_of_beq h1
      obtain ⟨v1, v2, v3⟩ := visB_at h3 hs
      exact rd_val (e_pop0 (pe_var (by rw [hN]; exact of_decide_eq_true h2) v1 v2 v3) h4) rfl
  | .pop i (some a) => fun X W sc e ok mo hN hs h => by
    cases e <;> first | (exact absurd (show false = true from h) Bool.false_ne_true) | skip
    rename_i fn es kw p
    match fn, es, kw, h with
    | .Attribute (.Name y q) m apos, [x], [], h =>
      obtain ⟨h1, h6⟩ := (Bool.and_eq_true _ _).mp (show (m == ("pop" : Str) && decide (N[i]? = some y) && visB sc y && lnB apos p && notStar x && isE tb TB N a sc x) = true from h)
      obtain ⟨h1, h5⟩ := (Bool.and_eq_true _ _).mp h1
      obtain ⟨h1, h4⟩ := (Bool.and_eq_true _ _).mp h1
      obtain ⟨h1, h3⟩ := (Bool.and_eq_true _ _).mp h1
      obtain ⟨h1, h2⟩ := (Bool.and_eq_true _ _).mp h1
      obtain rfl := eq_of_beq h1
      obtain ⟨v1, v2, v3⟩ := visB_at h3 hs
      exact rd_val (e_pop1 (pe_var (by rw [hN]; exact of_decide_eq_true h2) v1 v2 v3) h5 h4 (isE_ok a X W sc x ok mo hN hs h6).1) rfl
  | .ezp _ _ => fun X W sc e ok mo hN hs h => by cases e <;> exact absurd (show false = true from h) Bool.false_ne_true
  | .lrg tp a b => fun X W sc e ok mo hN hs h => by
    have ia := isE_ok a
    have ib := isE_ok b
    cases e <;> first | (exact absurd (show false = true from h) Bool.false_ne_true) | skip
    rename_i fn es kw p
    match fn, es, kw, h with
    | .Name f q, [.Call (.Name g q2) rs [] p2], [], h =>
      obtain ⟨h1, h5⟩ := (Bool.and_eq_true _ _).mp (show (f == (if tp then "tuple" else "list" : Str) && g == ("range" : Str) && glB sc f && glB sc g && rgeChk (fun x => isE tb TB N a sc x) (fun x => isE tb TB N b sc x) (isZ a) rs) = true from h)
      obtain ⟨h1, h4⟩ := (Bool.and_eq_true _ _).mp h1
      obtain ⟨h1, h3⟩ := (Bool.and_eq_true _ _).mp h1
      obtain ⟨h1, h2⟩ := (Bool.and_eq_true _ _).mp h1
      obtain rfl := eq_of_beq h1
      obtain rfl := eq_of_beq h2
      have gr := (glB_at h4 hs).1
      have mr : X.mg "range" = none := mo.bl _ (by decide +kernel)
      have ed : den cb K (.lrg tp a b) = lrgM tp (den cb K a) (den cb K b) := by funext e; rw [den]; rfl
      rw [ed]
      match rs, h5 with
      | [y], h5 =>
        obtain ⟨h6, h8⟩ := (Bool.and_eq_true _ _).mp (show (isZ a && notStar y && isE tb TB N b sc y) = true from h5)
        obtain ⟨h6a, h7⟩ := (Bool.and_eq_true _ _).mp h6
        have ea : den cb K a = fun n => .ok (.fz (.int 0)) n := by
          rw [isZ_eq h6a]
          funext e; rw [den]
        rw [ea]
        cases tp with
        | true => exact rd_val (e_lrgT1 ok (glB_at h3 hs).1 (mo.bl _ (by decide +kernel)) gr mr h7 (ib X W sc y ok mo hN hs h8).1) rfl
        | false => exact rd_val (e_lrgL1 ok (glB_at h3 hs).1 (mo.bl _ (by decide +kernel)) gr mr h7 (ib X W sc y ok mo hN hs h8).1) rfl
      | [x, y], h5 =>
        obtain ⟨h6, h9⟩ := (Bool.and_eq_true _ _).mp (show (notStar x && notStar y && isE tb TB N a sc x && isE tb TB N b sc y) = true from h5)
        obtain ⟨h6, h8⟩ := (Bool.and_eq_true _ _).mp h6
        obtain ⟨h6, h7⟩ := (Bool.and_eq_true _ _).mp h6
        cases tp with
        | true => exact rd_val (e_lrgT2 ok (glB_at h3 hs).1 (mo.bl _ (by decide +kernel)) gr mr h6 h7 (ia X W sc x ok mo hN hs h8).1 (ib X W sc y ok mo hN hs h9).1) rfl
        | false => exact rd_val (e_lrgL2 ok (glB_at h3 hs).1 (mo.bl _ (by decide +kernel)) gr mr h6 h7 (ia X W sc x ok mo hN hs h8).1 (ib X W sc y ok mo hN hs h9).1) rfl
  | .lc2 x vs t src ts vs1 t1 src1 ts1 => fun X W sc e ok mo hN hs h => by
    cases e <;> first | (exact absurd (show false = true from h) Bool.false_ne_true) | skip
    rename_i elt gens scope p
    match gens, h with
    | [⟨tg, iter, ifs, 0⟩, ⟨tg1, iter1, ifs1, 0⟩], h =>
      obtain ⟨h1, h13⟩ := (Bool.and_eq_true _ _).mp (show (blkC N sc scope (vs.map fun i => ((N[i]?).getD ("" : Str), i)) && isI tb TB N src sc tg iter && isG tb N (fun y => scope.names.lookup y == some .cell) (relS scope sc) t tg && isT tb TB N ts (relS scope sc) ifs && isI tb TB N src1 (relS scope sc) tg1 iter1 && isG tb N (fun y => scope.names.lookup y == some .cell) (relS scope sc) t1 tg1 && isT tb TB N ts1 (relS scope sc) ifs1 && isE tb TB N x (relS scope sc) elt &&
        (tSl t).all (fun i => vs.contains i) && (tSl t1).all (fun i => vs1.contains i) && vs1.all (fun i => vs.contains i) && notSet iter && notSet iter1) = true from h)
      obtain ⟨h1, h12⟩ := (Bool.and_eq_true _ _).mp h1
      obtain ⟨h1, h11⟩ := (Bool.and_eq_true _ _).mp h1
      obtain ⟨h1, h10⟩ := (Bool.and_eq_true _ _).mp h1
      obtain ⟨h1, h9⟩ := (Bool.and_eq_true _ _).mp h1
      obtain ⟨h1, h8⟩ := (Bool.and_eq_true _ _).mp h1
      obtain ⟨h1, h7⟩ := (Bool.and_eq_true _ _).mp h1
      obtain ⟨h1, h6⟩ := (Bool.and_eq_true _ _).mp h1
      obtain ⟨h1, h5⟩ := (Bool.and_eq_true _ _).mp h1
      obtain ⟨h1, h4⟩ := (Bool.and_eq_true _ _).mp h1
      obtain ⟨h1, h3⟩ := (Bool.and_eq_true _ _).mp h1
      obtain ⟨h1, h2⟩ := (Bool.and_eq_true _ _).mp h1
      have ev := own_snd N vs
      have key : PE X (.ListComp elt [⟨tg, iter, ifs, 0⟩, ⟨tg1, iter1, ifs1, 0⟩] scope p) (tE C W (lc2M ((vs.map fun i => ((N[i]?).getD ("" : Str), i)).map (·.2)) t (denI cb K src) (denT cb K ts) vs1 t1 (denI cb K src1) (denT cb K ts1) (den cb K x))) := by
        refine e_lc2 ok (denT_lk cb K ts) (denI_lk cb K src1) (denT_lk cb K ts1) (den_lk cb K x) (fun i hi => ?_) (fun i hi => ?_) (fun i hi => ?_) (isI_ok src X W sc tg iter ok mo hN hs h2) ?_ (fun s H C' cl fp => ?_) (fun s H C' cl fp => ?_) (fun s H C' cl fp => ?_) (fun s H C' cl fp => ?_) (fun s H C' cl fp => ?_) (fun s H C' cl fp => ?_) (fun v => ?_) (fun env v => ?_)
        · rw [ev]
          have := List.all_eq_true.mp h9 i hi
          simpa using this
        · have := List.all_eq_true.mp h10 i hi
          simpa using this
        · rw [ev]
          have := List.all_eq_true.mp h11 i hi
          simpa using this
        · rw [hN, hs]
          exact blkOk_by h1
        · exact g_ok ok.blk mo.blk hN (show relS scope X.env.scope = relS scope sc by rw [hs]) (fun x hx => hx) t tg h3
        · exact isT_ok ts _ _ (relS scope sc) ifs ok.blk mo.blk hN (show relS scope X.env.scope = relS scope sc by rw [hs]) h4
        · exact isI_ok src1 _ _ (relS scope sc) tg1 iter1 ok.blk mo.blk hN (show relS scope X.env.scope = relS scope sc by rw [hs]) h5
        · exact g_ok ok.blk mo.blk hN (show relS scope X.env.scope = relS scope sc by rw [hs]) (fun x hx => hx) t1 tg1 h6
        · exact isT_ok ts1 _ _ (relS scope sc) ifs1 ok.blk mo.blk hN (show relS scope X.env.scope = relS scope sc by rw [hs]) h7
        · exact (isE_ok x _ _ (relS scope sc) elt ok.blk mo.blk hN (show relS scope X.env.scope = relS scope sc by rw [hs]) h8).1
        · cases iter <;> first | rfl | cases h12
        · cases iter1 <;> first | rfl | cases h13
      rw [ev] at key
      rw [den_lc2]
      exact rd_val key rfl
  | .ext i a => fun X W sc e ok mo hN hs h => by
    cases e <;> first | (exact absurd (show false = true from h) Bool.false_ne_true) | skip
    rename_i fn es kw p
    match fn, es, kw, h with
    | .Attribute (.Name y q) m apos, [x], [], h =>
      obtain ⟨h1, h6⟩ := (Bool.and_eq_true _ _).mp (show (m == ("extend" : Str) && decide (N[i]? = some y) && visB sc y && lnB apos p && notStar x && isE tb TB N a sc x) = true from h)
      obtain ⟨h1, h5⟩ := (Bool.and_eq_true _ _).mp h1
      obtain ⟨h1, h4⟩ := (Bool.and_eq_true _ _).mp h1
      obtain ⟨h1, h3⟩ := (Bool.and_eq_true _ _).mp h1
      obtain ⟨h1, h2⟩ := (Bool.and_eq_true _ _).mp h1
      obtain rfl := eq_of_beq h1
      obtain ⟨v1, v2, v3⟩ := visB_at h3 hs
      exact rd_val (e_ext ok (pe_var (by rw [hN]; exact of_decide_eq_true h2) v1 v2 v3) h5 h4 (isE_ok a X W sc x ok mo hN hs h6).1) rfl
  | .app i a => fun X W sc e ok mo hN hs h => by
    cases e <;> first | (exact absurd (show false = true from h) Bool.false_ne_true) | skip
    rename_i fn es kw p
    match fn, es, kw, h with
    | .Attribute (.Name y q) m apos, [x], [], h =>
      obtain ⟨h1, h6⟩ := (Bool.and_eq_true _ _).mp (show (m == ("append" : Str) && decide (N[i]? = some y) && visB sc y && lnB apos p && notStar x && isE tb TB N a sc x) = true from h)
      obtain ⟨h1, h5⟩ := (Bool.and_eq_true _ _).mp h1
      obtain ⟨h1, h4⟩ := (Bool.and_eq_true _ _).mp h1
      obtain ⟨h1, h3⟩ := (Bool.and_eq_true _ _).mp h1
      obtain ⟨h1, h2⟩ := (Bool.and_eq_true _ _).mp h1
      obtain rfl := eq_of_beq h1
      obtain ⟨v1, v2, v3⟩ := visB_at h3 hs
      exact rd_val (e_app ok (pe_var (by rw [hN]; exact of_decide_eq_true h2) v1 v2 v3) h5 h4 (isE_ok a X W sc x ok mo hN hs h6).1) rfl
  | .get a k d => fun X W sc e ok mo hN hs h => by
    cases e <;> first | (exact absurd (show false = true from h) Bool.false_ne_true) | skip
    rename_i fn es kw p
    match fn, es, kw, h with
    | .Attribute o m apos, [x, y], [], h =>
      obtain ⟨h1, h8⟩ := (Bool.and_eq_true _ _).mp (show (m == ("get" : Str) && plainO o && lnB apos p && notStar x && notStar y && isE tb TB N a sc o && isE tb TB N k sc x && isE tb TB N d sc y) = true from h)
      obtain ⟨h1, h7⟩ := (Bool.and_eq_true _ _).mp h1
      obtain ⟨h1, h6⟩ := (Bool.and_eq_true _ _).mp h1
      obtain ⟨h1, h5⟩ := (Bool.and_eq_true _ _).mp h1
      obtain ⟨h1, h4⟩ := (Bool.and_eq_true _ _).mp h1
      obtain ⟨h1, h3⟩ := (Bool.and_eq_true _ _).mp h1
      obtain ⟨h1, h2⟩ := (Bool.and_eq_true _ _).mp h1
      obtain rfl := eq_of_beq h1
      exact rd_val (e_get ok h2 h4 h5 h3 (isE_ok a X W sc o ok mo hN hs h6).1 (isE_ok k X W sc x ok mo hN hs h7).1 (isE_ok d X W sc y ok mo hN hs h8).1) rfl
  | .lc x vs t src ts => fun X W sc e ok mo hN hs h => by
    cases e <;> first | (exact absurd (show false = true from h) Bool.false_ne_true) | skip
    rename_i elt gens scope p
    match gens, h with
    | [⟨tg, iter, ifs, 0⟩], h =>
      obtain ⟨h1, h9⟩ := (Bool.and_eq_true _ _).mp (show (blkC N sc scope (vs.map fun i => ((N[i]?).getD ("" : Str), i)) && isI tb TB N src sc tg iter && isG tb N (fun y => scope.names.lookup y == some .cell) (relS scope sc) t tg && isT tb TB N ts (relS scope sc) ifs && isE tb TB N x (relS scope sc) elt &&
        (tSl t).all (fun i => vs.contains i) && tPl t && notSet iter && notStar tg) = true from h)
      obtain ⟨h1, h8⟩ := (Bool.and_eq_true _ _).mp h1
      obtain ⟨h1, h7⟩ := (Bool.and_eq_true _ _).mp h1
      obtain ⟨h1, h6⟩ := (Bool.and_eq_true _ _).mp h1
      obtain ⟨h1, h5⟩ := (Bool.and_eq_true _ _).mp h1
      obtain ⟨h1, h4⟩ := (Bool.and_eq_true _ _).mp h1
      obtain ⟨h1, h3⟩ := (Bool.and_eq_true _ _).mp h1
      obtain ⟨h1, h2⟩ := (Bool.and_eq_true _ _).mp h1
      have ev := own_snd N vs
      have key : PE X (.ListComp elt [⟨tg, iter, ifs, 0⟩] scope p) (tE C W (lcM ((vs.map fun i => ((N[i]?).getD ("" : Str), i)).map (·.2)) t (denI cb K src) (denT cb K ts) (den cb K x))) := by
        refine e_lc (vs := vs) ok (denT_lk cb K ts) (den_lk cb K x) (fun i hi => ?_) h7 (isI_ok src X W sc tg iter ok mo hN hs h2) ?_ (fun s H C' cl fp => ?_) (fun s H C' cl fp => ?_) (fun s H C' cl fp => ?_) (fun v => ?_)
        · rw [ev]
          have := List.all_eq_true.mp h6 i hi
          simpa using this
        · rw [hN, hs]
          exact blkOk_by h1
        · exact g_ok ok.blk mo.blk hN (show relS scope X.env.scope = relS scope sc by rw [hs]) (fun x hx => hx) t tg h3
        · exact isT_ok ts _ _ (relS scope sc) ifs ok.blk mo.blk hN (show relS scope X.env.scope = relS scope sc by rw [hs]) h4
        · exact (isE_ok x _ _ (relS scope sc) elt ok.blk mo.blk hN (show relS scope X.env.scope = relS scope sc by rw [hs]) h5).1
        · cases iter <;> first | rfl | cases h8
      rw [ev] at key
      rw [den_lc]
      exact rd_val key rfl
  | .dc k x vs t src ts => fun X W sc e ok mo hN hs h => by
    cases e <;> first | (exact absurd (show false = true from h) Bool.false_ne_true) | skip
    rename_i ke elt gens scope p
    match gens, h with
    | [⟨tg, iter, ifs, 0⟩], h =>
      obtain ⟨h1, h9⟩ := (Bool.and_eq_true _ _).mp (show (blkC N sc scope (vs.map fun i => ((N[i]?).getD ("" : Str), i)) && isI tb TB N src sc tg iter && isG tb N (fun y => scope.names.lookup y == some .cell) (relS scope sc) t tg && isT tb TB N ts (relS scope sc) ifs && isE tb TB N k (relS scope sc) ke && isE tb TB N x (relS scope sc) elt &&
        (tSl t).all (fun i => vs.contains i) && tPl t && notSet iter && notStar tg) = true from h)
      obtain ⟨h1, h8⟩ := (Bool.and_eq_true _ _).mp h1
      obtain ⟨h1, h7⟩ := (Bool.and_eq_true _ _).mp h1
      obtain ⟨h1, h6⟩ := (Bool.and_eq_true _ _).mp h1
      obtain ⟨h1, h5⟩ := (Bool.and_eq_true _ _).mp h1
      obtain ⟨h1, h10⟩ := (Bool.and_eq_true _ _).mp h1
      obtain ⟨h1, h4⟩ := (Bool.and_eq_true _ _).mp h1
      obtain ⟨h1, h3⟩ := (Bool.and_eq_true _ _).mp h1
      obtain ⟨h1, h2⟩ := (Bool.and_eq_true _ _).mp h1
      have ev := own_snd N vs
      have key : PE X (.DictComp ke elt [⟨tg, iter, ifs, 0⟩] scope p) (tE C W (dcM ((vs.map fun i => ((N[i]?).getD ("" : Str), i)).map (·.2)) t (denI cb K src) (denT cb K ts) (den cb K k) (den cb K x))) := by
        refine e_dc (vs := vs) ok (denT_lk cb K ts) (den_lk cb K k) (den_lk cb K x) (fun i hi => ?_) h7 (isI_ok src X W sc tg iter ok mo hN hs h2) ?_ (fun s H C' cl fp => ?_) (fun s H C' cl fp => ?_) (fun s H C' cl fp => ?_) (fun s H C' cl fp => ?_) (fun v => ?_)
        · rw [ev]
          have := List.all_eq_true.mp h6 i hi
          simpa using this
        · rw [hN, hs]
          exact blkOk_by h1
        · exact g_ok ok.blk mo.blk hN (show relS scope X.env.scope = relS scope sc by rw [hs]) (fun x hx => hx) t tg h3
        · exact isT_ok ts _ _ (relS scope sc) ifs ok.blk mo.blk hN (show relS scope X.env.scope = relS scope sc by rw [hs]) h4
        · exact (isE_ok k _ _ (relS scope sc) ke ok.blk mo.blk hN (show relS scope X.env.scope = relS scope sc by rw [hs]) h10).1
        · exact (isE_ok x _ _ (relS scope sc) elt ok.blk mo.blk hN (show relS scope X.env.scope = relS scope sc by rw [hs]) h5).1
        · cases iter <;> first | rfl | cases h8
      rw [ev] at key
      rw [den_dc]
      exact rd_val key rfl
theorem isE1_ok : ∀ (x : List E) (a : E), x = [a] → GoodE C cb K n tb TB N a
  | [], a, h => nomatch h
  | b :: r, a, h => (List.cons.inj h).1 ▸ isE_ok b
theorem isL_ok : ∀ x : List E, GoodL C cb K n tb TB N x
  | [] => fun X W sc es ok mo hN hs h => by
    cases es with
    | nil => exact a_nil
    | cons x xs => exact absurd (show false = true from h) Bool.false_ne_true
  | a :: r => fun X W sc es ok mo hN hs h => by
    have ia := isE_ok a
    have ir := isL_ok r
    cases es with
    | nil => cases a <;> exact absurd (show false = true from h) Bool.false_ne_true
    | cons x xs =>
      by_cases hstar : ∃ b, a = .star b
      · obtain ⟨b, rfl⟩ := hstar
        have ib := isE_ok b
        cases x <;> first
          | (have h := ((Bool.and_eq_true _ _).mp ((Bool.and_eq_true _ _).mp (show (notStar _ && isE tb TB N (.star b) sc _ && isL tb TB N r sc xs) = true from h)).1).2
             exact absurd rfl (notStar_ne h b))
          | (obtain ⟨h1, h2⟩ := (Bool.and_eq_true _ _).mp (show (isE tb TB N b sc _ && isL tb TB N r sc xs) = true from h)
             exact a_star ok.k (ib X W sc _ ok mo hN hs h1).1 (ir X W sc xs ok mo hN hs h2))
      · have hns : ∀ b, a ≠ .star b := fun b z => hstar ⟨b, z⟩
        have h : (notStar x && isE tb TB N a sc x && isL tb TB N r sc xs) = true := by
          cases a <;> first | exact h | exact absurd rfl (hns _)
        obtain ⟨h1, h3⟩ := (Bool.and_eq_true _ _).mp h
        obtain ⟨h1, h2⟩ := (Bool.and_eq_true _ _).mp h1
        rw [denL_cons hns]
        exact a_cons h1 (ia X W sc x ok mo hN hs h2).1 (ir X W sc xs ok mo hN hs h3)
theorem isT_ok : ∀ x : List E, GoodT C cb K n tb TB N x
  | [] => fun X W sc es ok mo hN hs h => by
    cases es with
    | nil => exact PTs_imp pts_nil fun σ H Q ⟨G, Rs, F, m, rl, q⟩ => q true F H Sub.refl rl rfl
    | cons x xs => exact absurd (show false = true from h) Bool.false_ne_true
  | a :: r => fun X W sc es ok mo hN hs h => by
    have ia := isE_ok a
    match r, es, h with
    | [], [x], h =>
      obtain ⟨h1, h2⟩ := (Bool.and_eq_true _ _).mp (show (condB x && isE tb TB N a sc x) = true from h)
      rw [denT_one]
      exact pts_one ((ia X W sc x ok mo hN hs h2).2.1 h1)
    | _ :: _, _, h => exact absurd (show false = true from h) Bool.false_ne_true
    | [], [], h => exact absurd (show false = true from h) Bool.false_ne_true
    | [], _ :: _ :: _, h => exact absurd (show false = true from h) Bool.false_ne_true
theorem isI_ok : ∀ x : E, GoodI C cb K n tb TB N x
  | .its a => fun X W sc tg e ok mo hN hs h => i_its ok (isE_ok a X W sc e ok mo hN hs h).1
  | .enm a => fun X W sc tg e ok mo hN hs h => by
    match e, h with
    | .Call (.Name f q) [x] [] pos, h =>
      obtain ⟨h1, h4⟩ := (Bool.and_eq_true _ _).mp (show (isTp tg && f == ("enumerate" : Str) && glB sc f && notStar x && isE tb TB N a sc x) = true from h)
      obtain ⟨h1, h3⟩ := (Bool.and_eq_true _ _).mp h1
      obtain ⟨h1, h2⟩ := (Bool.and_eq_true _ _).mp h1
      obtain ⟨h0, h1⟩ := (Bool.and_eq_true _ _).mp h1
      obtain rfl := eq_of_beq h1
      cases tg <;> first | (cases h0; done) | skip
      exact i_enm ok (glB_at h2 hs).1 (mo.bl _ (by decide +kernel)) h3 (isE_ok a X W sc x ok mo hN hs h4).1
  | .ezp a b => fun X W sc tg e ok mo hN hs h => by
    match e, h with
    | .Call (.Name f q) [.Call (.Name g q2) [x, y] [] pos2] [] pos, h =>
      obtain ⟨h1, h6⟩ := (Bool.and_eq_true _ _).mp (show (isTp tg && f == ("enumerate" : Str) && g == ("zip" : Str) && glB sc f && glB sc g && notStar x && notStar y && isE tb TB N a sc x && isE tb TB N b sc y) = true from h)
      obtain ⟨h1, h5⟩ := (Bool.and_eq_true _ _).mp h1
      obtain ⟨h1, h4⟩ := (Bool.and_eq_true _ _).mp h1
      obtain ⟨h1, h3⟩ := (Bool.and_eq_true _ _).mp h1
      obtain ⟨h1, g3⟩ := (Bool.and_eq_true _ _).mp h1
      obtain ⟨h1, g2⟩ := (Bool.and_eq_true _ _).mp h1
      obtain ⟨h1, g1⟩ := (Bool.and_eq_true _ _).mp h1
      obtain ⟨h0, h1⟩ := (Bool.and_eq_true _ _).mp h1
      obtain rfl := eq_of_beq h1
      obtain rfl := eq_of_beq g1
      cases tg <;> first | (cases h0; done) | skip
      exact i_ezp ok (glB_at g3 hs).1 (mo.bl _ (by decide +kernel)) (glB_at g2 hs).1 (mo.bl _ (by decide +kernel)) h3 h4 (isE_ok a X W sc x ok mo hN hs h5).1 (isE_ok b X W sc y ok mo hN hs h6).1
  | .lc2 _ _ _ _ _ _ _ _ _ => fun X W sc tg e ok mo hN hs h => absurd (show false = true from h) Bool.false_ne_true
  | .ext _ _ => fun X W sc tg e ok mo hN hs h => absurd (show false = true from h) Bool.false_ne_true
  | .lrg _ _ _ => fun X W sc tg e ok mo hN hs h => absurd (show false = true from h) Bool.false_ne_true
  | .zip a b => fun X W sc tg e ok mo hN hs h => by
    match e, h with
    | .Call (.Name f q) [x, y] [] pos, h =>
      obtain ⟨h1, h6⟩ := (Bool.and_eq_true _ _).mp (show (isTp tg && f == ("zip" : Str) && glB sc f && notStar x && notStar y && isE tb TB N a sc x && isE tb TB N b sc y) = true from h)
      obtain ⟨h1, h5⟩ := (Bool.and_eq_true _ _).mp h1
      obtain ⟨h1, h4⟩ := (Bool.and_eq_true _ _).mp h1
      obtain ⟨h1, h3⟩ := (Bool.and_eq_true _ _).mp h1
      obtain ⟨h1, h2⟩ := (Bool.and_eq_true _ _).mp h1
      obtain ⟨h0, h1⟩ := (Bool.and_eq_true _ _).mp h1
      obtain rfl := eq_of_beq h1
      cases tg <;> first | (cases h0; done) | skip
      exact i_zip ok (glB_at h2 hs).1 (mo.bl _ (by decide +kernel)) h3 h4 (isE_ok a X W sc x ok mo hN hs h5).1 (isE_ok b X W sc y ok mo hN hs h6).1
  | .rng a b st => fun X W sc tg e ok mo hN hs h => by
    have ia := isE_ok a
    have ib := isE_ok b
    cases e <;> first | (exact absurd (show false = true from h) Bool.false_ne_true) | skip
    rename_i fn es kw p
    match fn, kw, h with
    | .Name f q, [], h =>
      obtain ⟨h1, h3⟩ := (Bool.and_eq_true _ _).mp (show (f == ("range" : Str) && glB sc f && rngChk (fun x => isE tb TB N a sc x) (fun x => isE tb TB N b sc x) (isZ a) st es) = true from h)
      unfold rngChk at h3
      obtain ⟨h1, h2⟩ := (Bool.and_eq_true _ _).mp h1
      obtain rfl := eq_of_beq h1
      have hg := (glB_at h2 hs).1
      have hm := mo.bl "range" (by decide +kernel)
      split at h3
      · rename_i y _
        obtain ⟨g1, h6⟩ := (Bool.and_eq_true _ _).mp h3
        obtain ⟨g2, h5⟩ := (Bool.and_eq_true _ _).mp g1
        obtain ⟨g3, h4⟩ := (Bool.and_eq_true _ _).mp g2
        obtain rfl := of_decide_eq_true h4
        have hz : a = .int 0 := by
          clear h h3 g1 g2 ia
          cases a <;> first | (cases g3; done) | skip
          exact congrArg E.int (of_decide_eq_true g3)
        subst hz
        exact i_rng1 hg hm h5 (ib X W sc y ok mo hN hs h6).1
      · rename_i x y _
        obtain ⟨g1, h7⟩ := (Bool.and_eq_true _ _).mp h3
        obtain ⟨g2, h6⟩ := (Bool.and_eq_true _ _).mp g1
        obtain ⟨g3, h5⟩ := (Bool.and_eq_true _ _).mp g2
        obtain ⟨g4, h4⟩ := (Bool.and_eq_true _ _).mp g3
        obtain rfl := of_decide_eq_true g4
        exact i_rng2 hg hm h4 h5 (ia X W sc x ok mo hN hs h6).1 (ib X W sc y ok mo hN hs h7).1
      · rename_i x y z _
        obtain ⟨g1, h8⟩ := (Bool.and_eq_true _ _).mp h3
        obtain ⟨g2, h7⟩ := (Bool.and_eq_true _ _).mp g1
        obtain ⟨g3, h6⟩ := (Bool.and_eq_true _ _).mp g2
        obtain ⟨g4, h5⟩ := (Bool.and_eq_true _ _).mp g3
        obtain ⟨g5, h4⟩ := (Bool.and_eq_true _ _).mp g4
        obtain rfl := of_decide_eq_true g5
        have hz : ∃ k p1 p2, z = .UnaryOp .USub (.Constant (.int 1) k p1) p2 := by
          unfold isM1 at h4
          split at h4
          · rename_i i k p1 p2 _
            obtain rfl : i = 1 := of_decide_eq_true h4
            exact ⟨_, _, _, rfl⟩
          · cases h4
        obtain ⟨k, p1, p2, rfl⟩ := hz
        exact i_rng3 hg hm h5 h6 (ia X W sc x ok mo hN hs h7).1 (ib X W sc y ok mo hN hs h8).1
      · cases h3
  | .non => fun X W sc tg e ok mo hN hs h => absurd (show false = true from h) Bool.false_ne_true
  | .bl _ => fun X W sc tg e ok mo hN hs h => absurd (show false = true from h) Bool.false_ne_true
  | .int _ => fun X W sc tg e ok mo hN hs h => absurd (show false = true from h) Bool.false_ne_true
  | .str _ => fun X W sc tg e ok mo hN hs h => absurd (show false = true from h) Bool.false_ne_true
  | .var _ => fun X W sc tg e ok mo hN hs h => absurd (show false = true from h) Bool.false_ne_true
  | .glb _ => fun X W sc tg e ok mo hN hs h => absurd (show false = true from h) Bool.false_ne_true
  | .fnv _ => fun X W sc tg e ok mo hN hs h => absurd (show false = true from h) Bool.false_ne_true
  | .dn => fun X W sc tg e ok mo hN hs h => absurd (show false = true from h) Bool.false_ne_true
  | .callF _ _ => fun X W sc tg e ok mo hN hs h => absurd (show false = true from h) Bool.false_ne_true
  | .callL _ _ _ => fun X W sc tg e ok mo hN hs h => absurd (show false = true from h) Bool.false_ne_true
  | .tup _ => fun X W sc tg e ok mo hN hs h => absurd (show false = true from h) Bool.false_ne_true
  | .lst _ => fun X W sc tg e ok mo hN hs h => absurd (show false = true from h) Bool.false_ne_true
  | .star _ => fun X W sc tg e ok mo hN hs h => absurd (show false = true from h) Bool.false_ne_true
  | .bin _ _ _ => fun X W sc tg e ok mo hN hs h => absurd (show false = true from h) Bool.false_ne_true
  | .neg _ => fun X W sc tg e ok mo hN hs h => absurd (show false = true from h) Bool.false_ne_true
  | .cmp _ _ _ => fun X W sc tg e ok mo hN hs h => absurd (show false = true from h) Bool.false_ne_true
  | .chn _ _ _ _ _ => fun X W sc tg e ok mo hN hs h => absurd (show false = true from h) Bool.false_ne_true
  | .and _ _ => fun X W sc tg e ok mo hN hs h => absurd (show false = true from h) Bool.false_ne_true
  | .or _ _ => fun X W sc tg e ok mo hN hs h => absurd (show false = true from h) Bool.false_ne_true
  | .not _ => fun X W sc tg e ok mo hN hs h => absurd (show false = true from h) Bool.false_ne_true
  | .ife _ _ _ => fun X W sc tg e ok mo hN hs h => absurd (show false = true from h) Bool.false_ne_true
  | .idx _ _ => fun X W sc tg e ok mo hN hs h => absurd (show false = true from h) Bool.false_ne_true
  | .slc _ _ _ => fun X W sc tg e ok mo hN hs h => absurd (show false = true from h) Bool.false_ne_true
  | .rev _ => fun X W sc tg e ok mo hN hs h => absurd (show false = true from h) Bool.false_ne_true
  | .blt _ _ => fun X W sc tg e ok mo hN hs h => absurd (show false = true from h) Bool.false_ne_true
  | .call _ _ _ => fun X W sc tg e ok mo hN hs h => absurd (show false = true from h) Bool.false_ne_true
  | .new _ _ _ => fun X W sc tg e ok mo hN hs h => absurd (show false = true from h) Bool.false_ne_true
  | .fld _ _ _ => fun X W sc tg e ok mo hN hs h => absurd (show false = true from h) Bool.false_ne_true
  | .prop _ _ _ => fun X W sc tg e ok mo hN hs h => absurd (show false = true from h) Bool.false_ne_true
  | .pop _ _ => fun X W sc tg e ok mo hN hs h => absurd (show false = true from h) Bool.false_ne_true
  | .app _ _ => fun X W sc tg e ok mo hN hs h => absurd (show false = true from h) Bool.false_ne_true
  | .get _ _ _ => fun X W sc tg e ok mo hN hs h => absurd (show false = true from h) Bool.false_ne_true
  | .lc _ _ _ _ _ => fun X W sc tg e ok mo hN hs h => absurd (show false = true from h) Bool.false_ne_true
  | .dc _ _ _ _ _ _ => fun X W sc tg e ok mo hN hs h => absurd (show false = true from h) Bool.false_ne_true
  | .nvr => fun X W sc tg e ok mo hN hs h => absurd (show false = true from h) Bool.false_ne_true
theorem isO_ok : ∀ x : Option E, GoodO C cb K n tb TB N x
  | none => fun X W sc e ok mo hN hs h => by
    cases e with
    | none => exact o_none
    | some x => exact absurd (show false = true from h) Bool.false_ne_true
  | some a => fun X W sc e ok mo hN hs h => by
    cases e with
    | none => exact absurd (show false = true from h) Bool.false_ne_true
    | some x => exact o_some (isE_ok a X W sc x ok mo hN hs h).1
end
end RT

set_option Elab.async false
set_option linter.all false
set_option maxRecDepth 100000
/-! CoreW: the other statements; their check. -/
namespace RT
open PySem PySem.Spec PyProof.Rows L2
section
variable {C : Ct} {W : WX} {X : Cx} {G : Hp} {Rs : Rv} {F F' F1 H H' : Hp} {σ σ' σ1 : L2.St} {e e' e0 e1 : Nv} {v : V} {a b c tg iter : Expr} {es : List Expr} {pos p0 p1 p2 : Pos}
def rSetA (C : Ct) : TSet := fun o i v H Q => ∃ F p dc dk d dc', o = .ref p ∧ ConL C F H p dc ∧ Insp C F H i dk ∧ Rep C F v d ∧ setK dc dk d = some dc' ∧ ∀ u, ConL C F (upd H p u) p dc' → Q (upd H p u)
theorem set_any (ok : XOk C W X) : PSet X (rSetA C) := by
  intro pins s σ H o i v ov iv u Q I ro ri rv h
  obtain ⟨F, p, dc, dk, d, dc', rfl, cc, hk, hv, hs, q⟩ := h
  cases cc with
  | @lst xs ds hp hr =>
    cases dk <;> simp only [setK, reduceCtorEq] at hs
    rename_i k
    have hki := hk.int
    subst hki
    have hl := hr.length
    have key : ∃ j, ixN xs.length k = some j ∧ dc' = .lst (ds.set j d) := by
      unfold ixN
      split at hs
      · rename_i h0
        split at hs
        · rename_i h1
          refine ⟨k.toNat, ?_, (Option.some.inj hs).symm⟩
          rw [if_pos h0, if_pos (by omega)]
        · cases hs
      · rename_i h0
        split at hs
        · rename_i h1
          refine ⟨(k + xs.length).toNat, ?_, by rw [hl]; exact (Option.some.inj hs).symm⟩
          rw [if_neg h0, if_pos (by omega)]
        · cases hs
    obtain ⟨j, hj, rfl⟩ := key
    exact set_list pins s σ H _ _ v ov iv u Q I ro ri rv ⟨p, xs, k, j, rfl, rfl, hp, hj, q _ (.lst upd_same (RepL.set hv j hr))⟩
  | @dct kvs ds hp hr =>
    have hs : (keyD dk).bind (fun q => if ds.length < lim then some (.dct (RT.putK ds q d)) else none) = some dc' := by
      cases dk <;> exact hs
    obtain ⟨k, hkd, hs⟩ := Option.bind_eq_some_iff.mp hs
    split at hs
    · rename_i hz
      cases hs
      have hy : i = kV k := by
        cases dk <;> simp only [keyD, Option.some.injEq, reduceCtorEq] at hkd
        · subst hkd; exact hk.int
        · subst hkd; exact hk.str
      obtain rfl : ov = Value.ref p := ro
      have hlen : kvs.length < sizeLine := by rw [hr.length, ← lim_eq]; exact hz
      exact d_setItem (by have := ok.u; omega) I (.inl ⟨kvs, k, hp, hy, hlen, rfl⟩) ri rv fun s4 I4 => ⟨_, I4, q _ (.dct upd_same (hr.put hv))⟩
    · cases hs
theorem ownB_slot {i : Nat} (r : Rel C G Rs F H σ e) (h : (ownB e i).isSome = true) : ∃ p fl d, e[i]? = some (some (fl, d)) ∧ fl ≠ Fl.sh ∧ σ[i]? = some (some (V.ref p)) := by
  obtain ⟨⟨fl, d⟩, hd⟩ := Option.isSome_iff_exists.mp h
  obtain ⟨h1, _⟩ := ownB_at hd
  have hs : fl ≠ .sh := by
    unfold ownB at hd
    split at hd
    · cases hd; decide
    · cases hd; decide
    · cases hd
  obtain ⟨p, h2, _⟩ := r.ow i fl d h1 hs
  exact ⟨p, fl, d, h1, hs, h2⟩
theorem s_seti {i : Nat} {y : Str} {py : Pos} {mv mk : Nv → R VL} (ok : XOk C W X) (hn : notSl b = true) (hv : PE X (.Name y py) (tVar i)) (kv : KpE mv) (kk : KpE mk) (ha : PE X a (tE C W mv)) (hb : PE X b (tE C W mk)) :
    PS X (.Assign [.Subscript (.Name y py) b p0] a pos) (tSM C W fun n => if (ownB n i).isSome then (mv n).toS fun vv e1 => (mk e1).toS fun vk e2 => (match fzv e2 vv with
    | some (z, e3) => (match ownB e3 i, lkv e3 vk with
      | some (fl, c), some y => (match setK c y z with
        | some c' => .nx (e3.set i (some (fl, c')))
        | none => .bad)
      | _, _ => .bad)
    | none => .bad) else .bad) := by
  refine PS_imp (ps_asg ha (pg_sub hv hb (set_any ok) (by intro v; cases b <;> first | rfl | cases hn)) (by cases a <;> rfl) (by cases a <;> rfl) rfl) fun D σ H h => ?_
  obtain ⟨G, Rs, F, e, r, q⟩ := h
  dsimp only at q
  split at q
  case isFalse => exact q.elim
  rename_i hown
  obtain ⟨p, _, _, _, _, hp⟩ := ownB_slot r hown
  refine ⟨G, Rs, F, e, r, q.bnd (fun a e1 h => kv _ _ _ h) fun vv e1 x F1 H1 _ s1 r1 h1 q1 => ?_⟩
  obtain ⟨F2, s2, r2, h2⟩ := VRep.settle r1 h1
  have q1 := AfterS.mono s2 q1
  refine ⟨_, hp, G, Rs, F2, e1, r2, q1.bnd (fun a e1 h => kk _ _ _ h) fun vk e2 y F3 H3 _ s3 r3 h3 q2 => ?_⟩
  obtain ⟨F4, s4, r4, h4⟩ := VRep.settle r3 h3
  have q2 := AfterS.mono s4 q2
  have h2' : VRep C G Rs F4 H3 σ e2 x vv.set := h2.keepS (s3.trans s4)
  have hzs : fzv e2 vv.set = fzv e2 vv := by cases vv <;> rfl
  cases hz : fzv e2 vv with
  | none => rw [hz] at q2; exact q2.elim
  | some ze =>
    obtain ⟨z, e3⟩ := ze
    rw [hz] at q2
    dsimp only at q2
    obtain ⟨F5, s5, r5, h5⟩ := h2'.frozen r4 (hzs.trans hz)
    split at q2
    · rename_i fl cc yd ho hl
      obtain ⟨g1, g2⟩ := ownB_at ho
      have g3 : fl ≠ .sh := by
        unfold ownB at ho
        split at ho
        · cases ho; decide
        · cases ho; decide
        · cases ho
      split at q2
      · rename_i c' hsk
        obtain ⟨p', k1, _, _, _, k2⟩ := r5.ow i fl cc g1 g3
        rw [hp] at k1; cases k1
        have cl : ConL C F5 H3 p cc := by
          cases k2 with
          | l k2 => exact k2
          | obj _ _ _ _ _ _ _ _ _ => cases yd <;> simp only [setK, reduceCtorEq] at hsk
        have hky : Insp C F5 H3 y yd := r5.look (vl := vk.set) (VRep.keepS h4 s5) (lkv_set.trans hl)
        refine ⟨F5, p, cc, yd, z, c', rfl, cl, hky, h5, hsk, fun u hu => ?_⟩
        refine q2 σ F5 _ s5 (r5.write g1 g3 hp cl hu) ?_
        exact ((fzv_lk hz).trans (LkE.setAt g1 g2 (by cases fl <;> first | exact .inr ⟨_, rfl⟩ | exact .inl (by decide)))).same
      · exact q2.elim
    · exact q2.elim
theorem s_aug {i : Nat} {x : Str} {op : Bop} {m : Nv → R VL} (ok : XOk C W X) (hop : op = .add ∨ op = .sub) (hi : X.N[i]? = some x) (hx : Loc X.env.scope x) (hf : X.fn x = true ∨ X.env.scope.names.lookup x = some .local) (km : KpE m) (ha : PE X a (tE C W m)) :
    PS X (.AugAssign (.Name x p0) (opr op) a pos) (tSM C W fun n => (match n[i]? with
    | some (some (.sh, .int x)) => (m n).toS fun v e1 => (match intV e1 v with
      | some y => (match op with
        | .add => sget (setT (.v i) (.int (x + y)) e1)
        | .sub => sget (setT (.v i) (.int (x - y)) e1)
        | _ => .bad)
      | none => .bad)
    | _ => .bad)) := by
  have run : ∀ (f : Int → Int → Int) (D : Ends) (σ : L2.St) (H : Hp), tSM C W (fun n => (match n[i]? with
    | some (some (.sh, .int x)) => (m n).toS fun v e1 => (match intV e1 v with
      | some y => sget (setT (.v i) (.int (f x y)) e1)
      | none => .bad)
    | _ => .bad)) D σ H → tAug i (tE C W m) (ipI f) D σ H := fun f D σ H h => by
    obtain ⟨G, Rs, F, e, r, q⟩ := h
    dsimp only at q
    split at q
    · rename_i xi hxi
      obtain ⟨u, h1, h2⟩ := r.sh i _ hxi
      cases h2
      refine ⟨_, h1, G, Rs, F, e, r, q.bnd (fun a e1 h => km _ _ _ h) fun v e1 y F1 H1 _ s1 r1 hv q1 => ?_⟩
      split at q1
      · rename_i yi hyi
        refine ⟨xi, yi, rfl, int_at r1 hv hyi, ?_⟩
        cases hs : setT (.v i) (.int (f xi yi)) e1 with
        | none => rw [hs] at q1; exact q1.elim
        | some e2 =>
          rw [hs] at q1
          obtain ⟨⟨o, ho⟩, rfl, hk, hk2⟩ := setT_v hs
          exact q1 _ F1 H1 Sub.refl (r1.put ho (.int _)) (set_lkSame hk hk2)
      · exact q1.elim
    · exact q.elim
  rcases hop with rfl | rfl
  · exact PS_imp (ps_aug ok.nd hi hx ha ip_add hf) fun D σ H h => run (fun i j => i + j) D σ H h
  · exact PS_imp (ps_aug ok.nd hi hx ha ip_sub hf) fun D σ H h => run (fun i j => i - j) D σ H h
theorem s_setLc {i : Nat} {y : Str} {vs : List Nat} {t : T} {mi : Nv → R (List RT.D × List Nat)} {mt : Nv → R Bool} {me : Nv → R VL} {elt : Expr} {ifs : List Expr} {scope : Scope} {own : List (Str × Nat)} (ok : XOk C W X) (kt : KpE mt) (ke : KpE me) (km : KpE (lcM (own.map (·.2)) t mi mt me)) (hsub : ∀ i ∈ tSl t, i ∈ own.map (·.2)) (hpl : tPl t = true)
    (hy : X.N[i]? = some y) (hyl : X.env.scope.names.lookup y = some .local) (hsw : swapsWith (.ListComp b [⟨tg, iter, ifs, 0⟩] scope p1) (some (.Name y p0)) pos.line X.env = pure true)
    (hi : PI X tg iter (tI C W mi)) (bk : BlkOk X.N X.env.scope scope own) (hg : ∀ (s : Shared) (H : Hp) (C' : Addr) (cl : List (Str × Addr)) (fp : List Addr), PG (X.blk s H scope (compEnvC scope cl C' X.env) fp) tg (gT C t))
    (ht : ∀ (s : Shared) (H : Hp) (C' : Addr) (cl : List (Str × Addr)) (fp : List Addr), PTs (X.blk s H scope (compEnvC scope cl C' X.env) fp) ifs (tG C (fun _ _ _ _ => False) vEq mt))
    (he : ∀ (s : Shared) (H : Hp) (C' : Addr) (cl : List (Str × Addr)) (fp : List Addr), PE (X.blk s H scope (compEnvC scope cl C' X.env) fp) b (tE C (fun _ _ _ _ => False) me)) (hs : ∀ x, foldedSetIterable iter X.env x = pure x) :
    PS X (.Assign [.Name y p0] (.ListComp b [⟨tg, iter, ifs, 0⟩] scope p1) pos) (tSM C W fun n => (lcM (own.map (·.2)) t mi mt me n).toS fun v e1 => sget (setV i v e1)) :=
  PS_imp (ps_setLc ok.calm ok.nd hy hyl hsw hi bk hg ht he hs) fun D σ H h => lc_run kt ke hsub hpl (set_imp km h)
theorem s_setLc2 {i : Nat} {y : Str} {vs1 : List Nat} {t t1 : T} {mi mi1 : Nv → R (List RT.D × List Nat)} {mt mt1 : Nv → R Bool} {me : Nv → R VL} {tg1 iter1 : Expr} {ifs ifs1 : List Expr} {scope : Scope} {own : List (Str × Nat)} (ok : XOk C W X) (kt : KpE mt) (ki1 : KpI mi1) (kt1 : KpE mt1) (ke : KpE me) (km : KpE (lc2M (own.map (·.2)) t mi mt vs1 t1 mi1 mt1 me)) (hsub : ∀ i ∈ tSl t, i ∈ own.map (·.2)) (hsub1 : ∀ i ∈ tSl t1, i ∈ vs1) (hv : ∀ i ∈ vs1, i ∈ own.map (·.2))
    (hy : X.N[i]? = some y) (hyl : X.env.scope.names.lookup y = some .local) (hsw : swapsWith (.ListComp b [⟨tg, iter, ifs, 0⟩, ⟨tg1, iter1, ifs1, 0⟩] scope p1) (some (.Name y p0)) pos.line X.env = pure true)
    (hi : PI X tg iter (tI C W mi)) (bk : BlkOk X.N X.env.scope scope own) (hg : ∀ (s : Shared) (H : Hp) (C' : Addr) (cl : List (Str × Addr)) (fp : List Addr), PG (X.blk s H scope (compEnvC scope cl C' X.env) fp) tg (gT C t))
    (ht : ∀ (s : Shared) (H : Hp) (C' : Addr) (cl : List (Str × Addr)) (fp : List Addr), PTs (X.blk s H scope (compEnvC scope cl C' X.env) fp) ifs (tG C (fun _ _ _ _ => False) vEq mt))
    (hi1 : ∀ (s : Shared) (H : Hp) (C' : Addr) (cl : List (Str × Addr)) (fp : List Addr), PI (X.blk s H scope (compEnvC scope cl C' X.env) fp) tg1 iter1 (tI C (fun _ _ _ _ => False) mi1))
    (hg1 : ∀ (s : Shared) (H : Hp) (C' : Addr) (cl : List (Str × Addr)) (fp : List Addr), PG (X.blk s H scope (compEnvC scope cl C' X.env) fp) tg1 (gT C t1))
    (ht1 : ∀ (s : Shared) (H : Hp) (C' : Addr) (cl : List (Str × Addr)) (fp : List Addr), PTs (X.blk s H scope (compEnvC scope cl C' X.env) fp) ifs1 (tG C (fun _ _ _ _ => False) vEq mt1))
    (he : ∀ (s : Shared) (H : Hp) (C' : Addr) (cl : List (Str × Addr)) (fp : List Addr), PE (X.blk s H scope (compEnvC scope cl C' X.env) fp) b (tE C (fun _ _ _ _ => False) me)) (hs : ∀ x, foldedSetIterable iter X.env x = pure x) (hs1 : ∀ env x, foldedSetIterable iter1 env x = pure x) :
    PS X (.Assign [.Name y p0] (.ListComp b [⟨tg, iter, ifs, 0⟩, ⟨tg1, iter1, ifs1, 0⟩] scope p1) pos) (tSM C W fun n => (lc2M (own.map (·.2)) t mi mt vs1 t1 mi1 mt1 me n).toS fun v e1 => sget (setV i v e1)) :=
  PS_imp (ps_setLc2 ok.calm ok.nd hy hyl hsw hi bk hv hg ht hi1 hg1 ht1 he hs hs1) fun D σ H h => lc2_run kt ki1 kt1 ke hsub hsub1 (set_imp km h)
theorem s_setDc {i : Nat} {y : Str} {kx : Expr} {vs : List Nat} {t : T} {mi : Nv → R (List RT.D × List Nat)} {mt : Nv → R Bool} {mk me : Nv → R VL} {ifs : List Expr} {scope : Scope} {own : List (Str × Nat)} (ok : XOk C W X) (kt : KpE mt) (kk : KpE mk) (ke : KpE me) (km : KpE (dcM (own.map (·.2)) t mi mt mk me)) (hsub : ∀ i ∈ tSl t, i ∈ own.map (·.2)) (hpl : tPl t = true)
    (hy : X.N[i]? = some y) (hyl : X.env.scope.names.lookup y = some .local) (hsw : swapsWith (.DictComp kx b [⟨tg, iter, ifs, 0⟩] scope p1) (some (.Name y p0)) pos.line X.env = pure true)
    (hi : PI X tg iter (tI C W mi)) (bk : BlkOk X.N X.env.scope scope own) (hg : ∀ (s : Shared) (H : Hp) (C' : Addr) (cl : List (Str × Addr)) (fp : List Addr), PG (X.blk s H scope (compEnvC scope cl C' X.env) fp) tg (gT C t))
    (ht : ∀ (s : Shared) (H : Hp) (C' : Addr) (cl : List (Str × Addr)) (fp : List Addr), PTs (X.blk s H scope (compEnvC scope cl C' X.env) fp) ifs (tG C (fun _ _ _ _ => False) vEq mt))
    (hk : ∀ (s : Shared) (H : Hp) (C' : Addr) (cl : List (Str × Addr)) (fp : List Addr), PE (X.blk s H scope (compEnvC scope cl C' X.env) fp) kx (tE C (fun _ _ _ _ => False) mk))
    (he : ∀ (s : Shared) (H : Hp) (C' : Addr) (cl : List (Str × Addr)) (fp : List Addr), PE (X.blk s H scope (compEnvC scope cl C' X.env) fp) b (tE C (fun _ _ _ _ => False) me)) (hs : ∀ x, foldedSetIterable iter X.env x = pure x) :
    PS X (.Assign [.Name y p0] (.DictComp kx b [⟨tg, iter, ifs, 0⟩] scope p1) pos) (tSM C W fun n => (dcM (own.map (·.2)) t mi mt mk me n).toS fun v e1 => sget (setV i v e1)) :=
  PS_imp (ps_setDc ok.calm ok.nd hy hyl hsw hi bk hg ht hk he hs) fun D σ H h => dc_run kt kk ke hsub hpl (set_imp km h)
theorem s_par3 {i j l : Nat} {x y z : Str} {px py pz pt pt2 : Pos} {kt k2 : Nat} {m : Nv → R (List VL)} (ok : XOk C W X) (hi : X.N[i]? = some x) (hj : X.N[j]? = some y) (hl : X.N[l]? = some z) (hij : i ≠ j) (hil : i ≠ l) (hjl : j ≠ l) (hx : X.env.scope.names.lookup x = some .local) (hy : X.env.scope.names.lookup y = some .local) (hz : X.env.scope.names.lookup z = some .local)
    (hw : swappedStores [.Tuple [.Name x px, .Name y py, .Name z pz] kt pt] (.Tuple [a, b, c] k2 pt2) X.env = pure (some [x, y, z])) (km : KpE m) (ha : PA X [a, b, c] (tG C W (vFs C) m)) :
    PS X (.Assign [.Tuple [.Name x px, .Name y py, .Name z pz] kt pt] (.Tuple [a, b, c] k2 pt2) pos) (tSM C W fun n => (m n).toS fun vs e1 => sget (setVs [i, j, l] vs e1)) :=
  PS_imp (ps_par3 ok.calm ok.nd hi hj hl hij hil hjl hx hy hz ha hw) fun D σ H h => by
    obtain ⟨G, Rs, F, e, r, q⟩ := par_run km h
    refine ⟨G, Rs, F, e, r, ?_⟩
    cases hm : m e with
    | bad => rw [hm] at q; exact q
    | exc c d e1 => rw [hm] at q; exact q
    | ok ls e1 =>
      rw [hm] at q
      intro vs F1 H1 s1 r1 h1
      obtain ⟨hl, hn⟩ := q vs F1 H1 s1 r1 h1
      match vs, hl with
      | [u, v, w], _ => exact ⟨u, v, w, rfl, hn⟩
/-- where the stores do not swap -/
def notNm : Expr → Bool
  | .Name _ _ => false
  | _ => true
theorem fm_short {α β : Type} {f : α → Option β} : ∀ {l : List α}, (∃ x ∈ l, f x = none) → (l.filterMap f).length < l.length
  | [], ⟨_, h, _⟩ => nomatch h
  | x :: l, ⟨y, h, e⟩ => by
    rw [List.filterMap_cons]
    rcases List.mem_cons.mp h with rfl | h
    · rw [e]
      exact Nat.lt_succ_of_le (List.length_filterMap_le _ _)
    · have := fm_short (f := f) ⟨y, h, e⟩
      cases f x with
      | none => exact Nat.lt_succ_of_lt this
      | some z => exact Nat.succ_lt_succ this
theorem noSwap_ok {ts vs : List Expr} {kt k2 : Nat} {pt pt2 : Pos} {env : Env} (h : noSwap env.scope ts vs = true) : swappedStores [.Tuple ts kt pt] (.Tuple vs k2 pt2) env = pure none := by
  unfold noSwap at h
  rw [Bool.or_eq_true, Bool.or_eq_true] at h
  unfold swappedStores
  dsimp only
  split
  · rfl
  · rename_i h1
    split
    · rfl
    · split
      · rfl
      · rename_i h3
        split
        · rfl
        · rename_i h4
          exfalso
          rcases h with (h | h) | h
          · exact h1 (by simp only [Bool.not_eq_true', Bool.or_eq_false_iff] at h; simp [h.1, h.2])
          · obtain ⟨x, hx, hn⟩ := List.any_eq_true.mp h
            have := fm_short (f := fun (e : Expr) => match e with
              | .Name id pos => if (env.kindOf id == some .local && pos.line == (ts.head?.map (·.pos.line)).getD 0) = true then some id else none
              | _ => none) ⟨x, hx, by
              cases x <;> first | rfl | skip
              rename_i id pos
              have hn : (!(env.scope.names.lookup id == some .local)) = true := hn
              show (if (env.kindOf id == some .local && _) = true then some id else none) = none
              rw [if_neg]
              intro z
              rw [Bool.and_eq_true] at z
              have z1 : (env.scope.names.lookup id == some .local) = true := z.1
              rw [z1] at hn
              cases hn⟩
            exact h3 (by simp only [Bool.or_eq_true, bne_iff_ne]; exact .inl (Nat.ne_of_lt this))
          · exact h4 h
end
end RT

set_option Elab.async false
set_option linter.all false
set_option maxRecDepth 100000
/-! CoreX: defs. -/
namespace RT
open PySem PySem.Spec PyProof.Rows L2
section
variable {C : Ct} {W : WX} {X : Cx} {F F' H H' : Hp} {σ σ' : L2.St} {e e' : Nv} {v : V}
theorem start_get {N : List Str} {vs : List V} {i : Nat} {v : V} (h : vs[i]? = some v) : (L2.start N vs)[i]? = some (some v) := by
  have hi := (List.getElem?_eq_some_iff.mp h).1
  unfold L2.start
  rw [List.getElem?_append_left (by simpa using hi), List.getElem?_map, h]
  rfl
theorem flags_at {α : Type} {xs : List α} {f : α → Slot} {n i : Nat} {fl : Fl} {d : D} (h : ((xs.map f) ++ List.replicate n none)[i]? = some (some (fl, d))) : ∃ x, xs[i]? = some x ∧ f x = some (fl, d) := by
  by_cases hi : i < xs.length
  · rw [List.getElem?_append_left (by simpa using hi), List.getElem?_map] at h
    cases hx : xs[i]? with
    | none => rw [hx] at h; cases h
    | some x => rw [hx] at h; exact ⟨x, rfl, Option.some.inj h⟩
  · rw [List.getElem?_append_right (by simpa using hi), List.getElem?_replicate] at h
    split at h <;> cases h
/-- the ground of a call: all that stood there, but what is handed in -/
noncomputable def Gd (H : Hp) (O : Addr → Prop) : Hp := fun b => open Classical in if O b then none else H b
def Rd0 (F H : Hp) (O : Addr → Prop) (dx : Option Addr) : Rv := ⟨fun b => H b ≠ none ∧ F b = none ∧ ¬ O b, dx⟩
theorem gd_out {O : Addr → Prop} {b : Addr} (h : O b) : Gd H O b = none := if_pos h
theorem gd_in {O : Addr → Prop} {b : Addr} (h : ¬ O b) : Gd H O b = H b := if_neg h
theorem gd_sub {O : Addr → Prop} : Sub (Gd H O) H := fun a o h => by
  by_cases q : O a
  · rw [gd_out q] at h; cases h
  · rw [gd_in q] at h; exact h
theorem start_rel {f : Fn} {N : List Str} {vs : List V} {ds : List D} (hio : f.io = false) (hN : f.ns = N.length) (hl : ds.length ≤ N.length) (s : Sub F H) (r : RepL C F vs ds) : Rel C (Gd H fun _ => False) (Rd0 F H (fun _ => False) none) F H (L2.start N vs) (startN f ds) := by
  have es : startN f ds = (ds.map fun d => some (Fl.sh, d)) ++ List.replicate (f.ns - ds.length) none := by
    unfold startN
    rw [hio]
  rw [es]
  have sh : ∀ {i : Nat} {fl : Fl} {d : D}, ((ds.map fun d => (some (Fl.sh, d) : Slot)) ++ List.replicate (f.ns - ds.length) none)[i]? = some (some (fl, d)) → fl = .sh ∧ ds[i]? = some d := fun {i fl d} h => by
    obtain ⟨x, h1, h2⟩ := flags_at h
    cases h2
    exact ⟨rfl, h1⟩
  refine ⟨?_, s, gd_sub, fun a h => ⟨h.2.1, h.1⟩, fun i d h => ?_, fun i fl d h hf => absurd (sh h).1 hf, fun i j fi fj di dj p hij h1 h2 h3 h4 => absurd (sh h1).1 h2⟩
  · unfold L2.start
    rw [List.length_append, List.length_append, List.length_map, List.length_map, List.length_replicate, List.length_replicate, hN, r.length]
  · obtain ⟨v, h1, h2⟩ := r.get (sh h).2
    exact ⟨v, start_get h1, h2⟩
theorem start_relIo {f : Fn} {N : List Str} {ws : List V} {d0 : D} {ds : List D} {p : Addr} {O : Addr → Prop} (hio : f.io = true) (hN : f.ns = N.length) (hl : ds.length + 1 ≤ N.length) (s : Sub F H) (f0 : F p = none) (ho : Hold C F H p d0 O) (r : RepL C F ws ds) :
    ∃ dx : Option Addr, (dx = none → O = fun b => b = p) ∧ (∀ q, dx = some q → (O = fun b => b = p ∨ b = q) ∧ ∃ c fs, d0 = .obj c fs) ∧ Rel C (Gd H O) (Rd0 F H O dx) F H (L2.start N (.ref p :: ws)) (startN f (d0 :: ds)) := by
  have es : startN f (d0 :: ds) = some (Fl.io, d0) :: ((ds.map fun d => some (Fl.sh, d)) ++ List.replicate (f.ns - (ds.length + 1)) none) := by
    unfold startN
    rw [hio]
    rfl
  rw [es]
  have sh : ∀ {i : Nat} {fl : Fl} {d : D}, (some (Fl.io, d0) :: ((ds.map fun d => (some (Fl.sh, d) : Slot)) ++ List.replicate (f.ns - (ds.length + 1)) none))[i]? = some (some (fl, d)) → (i = 0 ∧ fl = .io ∧ d = d0) ∨ ∃ j, i = j + 1 ∧ fl = .sh ∧ ds[j]? = some d := fun {i fl d} h => by
    cases i with
    | zero => cases h; exact .inl ⟨rfl, rfl, rfl⟩
    | succ j =>
      obtain ⟨x, h1, h2⟩ := flags_at (show ((ds.map fun d => (some (Fl.sh, d) : Slot)) ++ List.replicate (f.ns - (ds.length + 1)) none)[j]? = some (some (fl, d)) from h)
      cases h2
      exact .inr ⟨j, rfl, rfl, h1⟩
  have Op : O p := by cases ho <;> first | exact rfl | exact .inl rfl
  have hdx : ∃ dx : Option Addr, (dx = none → O = fun b => b = p) ∧ (∀ q, dx = some q → (O = fun b => b = p ∨ b = q) ∧ ∃ c fs, d0 = .obj c fs) ∧ Con C (Gd H O) (Rd0 F H O dx) F H p Fl.io d0 := by
    cases ho with
    | l c => exact ⟨none, fun _ => rfl, (fun q z => by cases z), Con.l c⟩
    | @obj dx vs c fs a b cc d e => exact ⟨some dx, (fun z => by cases z), (fun q z => by cases z; exact ⟨rfl, c, fs, rfl⟩), Con.obj rfl a b cc d (gd_out (.inr rfl)) (fun z => z.2.2 (.inr rfl)) e rfl⟩
  obtain ⟨dx, dx1, dx2, hcon⟩ := hdx
  refine ⟨dx, dx1, dx2, ?_⟩
  refine ⟨?_, s, gd_sub, fun a h => ⟨h.2.1, h.1⟩, fun i d h => ?_, fun i fl d h hf => ?_, fun i j fi fj di dj q hij h1 h2 h3 h4 => ?_⟩
  · unfold L2.start
    rw [List.length_append, List.length_map, List.length_replicate, List.length_cons, List.length_cons, List.length_append, List.length_map, List.length_replicate, hN, r.length]
    omega
  · rcases sh h with ⟨_, z, _⟩ | ⟨j, rfl, _, h1⟩
    · cases z
    · obtain ⟨v, h2, h3⟩ := r.get h1
      exact ⟨v, start_get (by simpa using h2), h3⟩
  · rcases sh h with ⟨rfl, rfl, rfl⟩ | ⟨j, _, z, _⟩
    · exact ⟨p, start_get rfl, f0, fun z => z.2.2 Op, gd_out Op, hcon⟩
    · exact absurd z hf
  · rcases sh h1 with ⟨rfl, _⟩ | ⟨_, _, z, _⟩
    · rcases sh h3 with ⟨rfl, _⟩ | ⟨_, _, z, _⟩
      · exact absurd rfl hij
      · exact absurd z h4
    · exact absurd z h2
/-- behind a body -/
theorem kept_of {O : Addr → Prop} {F0 H0 : Hp} {dx : Option Addr} (r : Rel C (Gd H0 O) (Rd0 F0 H0 O dx) F' H' σ e) (s : Sub F0 F') : Kept F0 H0 F' H' O :=
  ⟨s, r.fh, fun b o h n => r.gh b o (by rw [gd_in n]; exact h), fun b h f n => (r.rs b ⟨h, f, n⟩).1⟩
theorem fin_no {f : Fn} {Q : VK} {E : XK} {F0 H0 : Hp} {σ0 : L2.St} {e0 : Nv} {m : SR} {ds : List D} (hio : f.io = false) (h : Out C F0 H0 (fun _ => False) none Q E (kindR f ds (finR f m))) :
    AfterS C (fun cls d _ H => E cls d H) (Gd H0 fun _ => False) (Rd0 F0 H0 (fun _ => False) none) σ0 F0 e0 { nx := fun _ H' => Q .non H', rt := Q } m := by
  have hk : ∀ r, kindR f ds r = r := fun r => by
    cases r <;> first | rfl | (unfold kindR; rw [hio]; rfl)
  rw [hk] at h
  have hi : ∀ e, ioN f e = some .non := fun e => by unfold ioN; rw [if_neg (by rw [hio]; exact Bool.false_ne_true)]
  have kp : ∀ {σ : L2.St} {F' H' : Hp} {e : Nv}, Sub F0 F' → Rel C (Gd H0 fun _ => False) (Rd0 F0 H0 (fun _ => False) none) F' H' σ e → Kept F0 H0 F' H' fun _ => False := fun s r => kept_of r s
  have gF : ∀ {F' H' : Hp} {x : V} {d : D}, Rep C F' x d → Gives C H0 F' H' false x d := fun h => h
  have gT : ∀ {F' H' : Hp} {q : Addr} {d : D}, F' q = none → H0 q = none → ConL C F' H' q d → Gives C H0 F' H' true (.ref q) d := fun a b c => ⟨_, rfl, a, b, c⟩
  cases m with
  | nx e =>
    simp only [finR, hi] at h
    exact fun σ F' H' s r _ => h .non F' H' (kp s r) (fun p z => nomatch z) (gF .non)
  | bk e => exact h.elim
  | ct e => exact h.elim
  | exc c d e =>
    simp only [finR, hi] at h
    exact fun σ F' H' cls x s r hx => h cls x F' H' (kp s r) hx
  | bad => exact h.elim
  | rt vl e =>
    simp only [finR, hi] at h
    intro σ F' H' x s r _ hv
    cases vl with
    | fz d => exact h x F' H' (kp s r) (fun p z => nomatch z) (gF hv)
    | fr d =>
      obtain ⟨p, rfl, f0, n0, g0, c, no⟩ := hv
      rw [gd_in (fun z => z)] at g0
      exact h _ F' H' (kp s r) (fun p z => nomatch z) (gT f0 g0 c)
    | pk i =>
      have hv : σ[i]? = some (some x) := hv
      dsimp only at h
      split at h
      · rename_i d hd
        obtain ⟨p, h1, f0, n0, g0, c⟩ := r.ow i _ _ hd (by decide)
        rw [hv] at h1; cases h1
        rw [gd_in (fun z => z)] at g0
        cases c with
        | l c => exact h _ F' H' (kp s r) (fun p z => nomatch z) (gT f0 g0 c)
        | obj z _ _ _ _ _ _ _ _ => cases z
      · rename_i d hd
        obtain ⟨u, h1, h2⟩ := r.sh i _ hd
        rw [hv] at h1; cases h1
        exact h _ F' H' (kp s r) (fun p z => nomatch z) (gF h2)
      · exact h.elim
theorem fin_io {f : Fn} {Q : VK} {E : XK} {F0 H0 : Hp} {σ0 : L2.St} {e0 : Nv} {m : SR} {p : Addr} {d0 : D} {ds : List D} {O : Addr → Prop} {dx : Option Addr} (hio : f.io = true) (h0 : e0[(0 : Nat)]? = some (some (Fl.io, d0))) (hs0 : σ0[(0 : Nat)]? = some (some (.ref p)))
    (dx1 : dx = none → O = fun b => b = p) (dx2 : ∀ q, dx = some q → (O = fun b => b = p ∨ b = q) ∧ ∃ c fs, d0 = .obj c fs) (h : Out C F0 H0 O (some p) Q E (kindR f (d0 :: ds) (finR f m))) :
    AfterS C (fun cls d _ H => E cls d H) (Gd H0 O) (Rd0 F0 H0 O dx) σ0 F0 e0 { nx := fun _ H' => Q .non H', rt := Q } m := by
  have hi : ∀ e d, e[(0 : Nat)]? = some (some (Fl.io, d)) → ioN f e = some d := fun e d z => by
    unfold ioN
    rw [if_pos hio, z]
  have kp : ∀ {σ : L2.St} {F' H' : Hp} {e : Nv}, Sub F0 F' → Rel C (Gd H0 O) (Rd0 F0 H0 O dx) F' H' σ e → Kept F0 H0 F' H' O := fun s r => kept_of r s
  -- what is handed in, at the end
  have fin : ∀ {σ : L2.St} {F' H' : Hp} {e : Nv}, Rel C (Gd H0 O) (Rd0 F0 H0 O dx) F' H' σ e → LkSame σ0 e0 σ e → ∃ d', e[(0 : Nat)]? = some (some (Fl.io, d')) ∧ σ[(0 : Nat)]? = some (some (.ref p)) ∧ F' p = none ∧ (kindOk d0 d' = true → Hold C F' H' p d' O) ∧
      ∀ q d, ConL C F' H' q d → q ≠ p → Gd H0 O q = none → (kindOk d0 d' = true → H0 q = none) := fun {σ F' H' e} r l => by
    obtain ⟨⟨d', h1⟩, h2⟩ := l.io 0 d0 h0
    rw [hs0] at h2
    obtain ⟨p', h3, f0, n0, g0, c⟩ := r.ow 0 _ _ h1 (by decide)
    rw [h2] at h3; cases h3
    refine ⟨d', h1, h2, f0, fun hk => ?_, fun q d cq nq gq hk => ?_⟩
    · cases hdx : dx with
      | none =>
        rw [dx1 hdx]
        cases c with
        | l c => exact .l c
        | obj _ _ _ _ _ _ _ _ z => exact absurd (show dx = some _ from z) (by rw [hdx]; exact nofun)
      | some q =>
        obtain ⟨hO, c0, fs0, rfl⟩ := dx2 q hdx
        rw [hO]
        cases c with
        | l c => cases c <;> cases hk
        | @obj dx' vs c fs z0 kc ob ne f1 g1 n1 ro z =>
          have e1 : dx' = q := Option.some.inj ((show dx = some dx' from z).symm.trans hdx)
          subst e1
          exact .obj kc ob ne f1 ro
    · by_cases hOq : O q
      · exfalso
        cases hdx : dx with
        | none =>
          rw [dx1 hdx] at hOq
          exact nq hOq
        | some q' =>
          obtain ⟨hO, c0, fs0, rfl⟩ := dx2 q' hdx
          rw [hO] at hOq
          rcases hOq with z | z
          · exact nq z
          · subst z
            cases c with
            | l c => cases c <;> cases hk
            | @obj dx' vs c fs z0 kc ob ne f1 g1 n1 ro z =>
              have e1 : dx' = q := Option.some.inj ((show dx = some dx' from z).symm.trans hdx)
              subst e1
              cases cq with
              | lst y _ => rcases ob with ⟨_, _, x⟩ | ⟨_, x⟩ <;> (rw [x] at y; cases y)
              | dct y _ => rcases ob with ⟨_, _, x⟩ | ⟨_, x⟩ <;> (rw [x] at y; cases y)
      · rw [gd_in hOq] at gq
        exact gq
  -- an end with a value
  have go : ∀ {fr : Bool} {v d : D} {σ : L2.St} {F' H' : Hp} {e : Nv} {x : V}, Out C F0 H0 O (some p) Q E (kindR f (d0 :: ds) (.ok fr v d)) → e[(0 : Nat)]? = some (some (Fl.io, d)) → Sub F0 F' → Rel C (Gd H0 O) (Rd0 F0 H0 O dx) F' H' σ e → LkSame σ0 e0 σ e → (kindOk d0 d = true → Gives C H0 F' H' fr x v) → Q x H' := fun {fr v d σ F' H' e x} h hd s r l g => by
    obtain ⟨d', h1, h2, f0, hH, _⟩ := fin r l
    rw [hd] at h1; cases h1
    unfold kindR at h
    dsimp only at h
    rw [if_pos hio] at h
    split at h
    · rename_i hk
      exact h x F' H' (kp s r) (fun p' z => by cases z; exact ⟨f0, hH hk⟩) (g hk)
    · exact h.elim
  have gF : ∀ {F' H' : Hp} {x : V} {d : D}, Rep C F' x d → Gives C H0 F' H' false x d := fun h => h
  have gT : ∀ {F' H' : Hp} {q : Addr} {d : D}, F' q = none → H0 q = none → ConL C F' H' q d → Gives C H0 F' H' true (.ref q) d := fun a b c => ⟨_, rfl, a, b, c⟩
  cases m with
  | bk e => exact h.elim
  | ct e => exact h.elim
  | bad => exact h.elim
  | exc c d e =>
    intro σ F' H' cls x s r hx
    unfold finR at h
    dsimp only at h
    split at h
    · exact h cls x F' H' (kp s r) hx
    · exact h.elim
  | nx e =>
    intro σ F' H' s r l
    obtain ⟨d', h1, h2, f0, hH, hQ⟩ := fin r l
    unfold finR at h
    dsimp only at h
    rw [hi e d' h1] at h
    exact go h h1 s r l fun _ => gF .non
  | rt vl e =>
    intro σ F' H' x s r l hv
    obtain ⟨d', h1, h2, f0, hH, hQ⟩ := fin r l
    unfold finR at h
    dsimp only at h
    rw [hi e d' h1] at h
    cases vl with
    | fz d => exact go h h1 s r l fun _ => gF hv
    | fr d =>
      obtain ⟨q, rfl, fq, n0, g0, c, no⟩ := hv
      have nq : q ≠ p := by
        rintro rfl
        exact no 0 _ _ h1 (by decide) h2
      exact go h h1 s r l fun hk => gT fq (hQ q d c nq g0 hk) c
    | pk i =>
      have hv : σ[i]? = some (some x) := hv
      dsimp only at h
      split at h
      · rename_i d hd
        obtain ⟨q, k1, fq, n0, g0, c⟩ := r.ow i _ _ hd (by decide)
        rw [hv] at k1; cases k1
        have ni : i ≠ 0 := by
          rintro rfl
          rw [h1] at hd; cases hd
        have nq : q ≠ p := by
          rintro rfl
          exact r.inj i 0 _ _ _ _ _ ni hd (by decide) h1 (by decide) hv h2
        cases c with
        | l c => exact go h h1 s r l fun hk => gT fq (hQ q d c nq g0 hk) c
        | obj z _ _ _ _ _ _ _ _ => cases z
      · rename_i d hd
        obtain ⟨u, k1, k2⟩ := r.sh i _ hd
        rw [hv] at k1; cases k1
        exact go h h1 s r l fun _ => gF k2
      · exact h.elim
end
end RT

set_option Elab.async false
set_option linter.all false
set_option maxRecDepth 100000
set_option maxHeartbeats 1000000
/-! CoreY: the check of statements and defs. -/
namespace RT
open PySem PySem.Spec PyProof.Rows L2

/-- whether the block's end is also the store -/
def swB (sc : Scope) (e : Expr) (x : Str) (p0 : Pos) : Bool := match e with
  | .DictComp ke elt gs scope p => (if sc.kind.isAnnotationScope then ScopeKind.function else sc.kind) == .function && sc.names.lookup x == some .local && p0.line == p.line && !(scope.names.any fun (n, k) => n == x && (k == .local || k == .cell))
  | .ListComp elt gs scope p => (if sc.kind.isAnnotationScope then ScopeKind.function else sc.kind) == .function && sc.names.lookup x == some .local && p0.line == p.line && !(scope.names.any fun (n, k) => n == x && (k == .local || k == .cell))
  | _ => false
theorem swB_ok {sc : Scope} {e : Expr} {x : Str} {p0 : Pos} {l : Nat} {env : Env} (hs : env.scope = sc) (h : noComp e = true ∨ isLc e = true) : swapsWith e (some (.Name x p0)) l env = pure (swB sc e x p0) := by
  subst hs
  cases e <;> first | rfl | (rcases h with h | h <;> cases h)
end RT

set_option Elab.async false
set_option linter.all false
set_option maxRecDepth 100000
set_option maxHeartbeats 1000000
/-! CoreZ: statements, defs: the whole. -/
namespace RT
open PySem PySem.Spec PyProof.Rows L2
theorem denI_e {cb : Cal} {K : Nat → Option D} (x : E) : KpI (denI cb K x) := denI_lk cb K x
theorem locB_at {sc : Scope} {x : Str} {X : Cx} (h : locB sc x = true) (hs : X.env.scope = sc) : Loc X.env.scope x := by
  unfold locB at h
  rw [hs]
  split at h
  · exact .inl (by assumption)
  · exact .inr (by assumption)
  · cases h
theorem lclB_at {sc : Scope} {x : Str} {X : Cx} (h : lclB sc x = true) (hs : X.env.scope = sc) : X.env.scope.names.lookup x = some .local := by
  rw [hs]
  exact of_decide_eq_true h
variable (C : Ct) (cb : Cal) (K : Nat → Option D) (n : Nat) (tb : Tab) (TB : Nat → Option Fn) (N : List Str) (sc : Scope)
/-- around a def's body -/
structure Bd (W : WX) (X : Cx) : Prop where
  ok : SOk C W X
  mo : Mo C X cb K n tb TB
  hN : X.N = N
  hs : X.env.scope = sc
  hf : ∀ x, X.fn x = true
  kd : sc.kind = .function
def GoodS (s : S) : Prop := ∀ (X : Cx) (W : WX) (st : Stmt), Bd C cb K n tb TB N sc W X → isS tb TB N sc s st = true → PS X st (tSM C W (denS cb K s))
def GoodB (s : List S) : Prop := ∀ (X : Cx) (W : WX) (st : List Stmt), Bd C cb K n tb TB N sc W X → isB tb TB N sc s st = true → PSs X st (tSM C W (denB cb K s))
theorem setV_all {W : WX} {X : Cx} {i : Nat} {a : E} {x : Str} {p0 pos : Pos} {e : Expr} (b : Bd C cb K n tb TB N sc W X) (h1 : N[i]? = some x) (h2 : locB sc x = true) (h3 : (noComp e || isLc e) = true) (h4 : isE tb TB N a sc e = true) : PS X (.Assign [.Name x p0] e pos) (tSM C W (denS cb K (.set (.v i) a))) := by
  have hi : X.N[i]? = some x := by rw [b.hN]; exact h1
  have hsw := swB_ok (l := pos.line) (x := x) (p0 := p0) b.hs (by rw [Bool.or_eq_true] at h3; exact h3)
  have ha := (isE_ok C cb K n tb TB N a X W sc e b.ok.toXOk b.mo b.hN b.hs h4).1
  cases hb : swB sc e x p0 with
  | false => exact s_set b.ok.toXOk hi (locB_at h2 b.hs) (.inl (b.hf x)) (by rw [hsw, hb]) (den_lk cb K a) ha
  | true =>
    cases e <;> first | (exact absurd (show false = true from hb) Bool.false_ne_true) | skip
    case ListComp =>
      rename_i elt gens scope p
      have hsw : swapsWith (.ListComp elt gens scope p) (some (.Name x p0)) pos.line X.env = pure true := by rw [hsw, hb]
      have hl : sc.names.lookup x = some .local := by
        unfold swB at hb
        rw [Bool.and_eq_true, Bool.and_eq_true, Bool.and_eq_true] at hb
        exact eq_of_beq hb.1.1.2
      cases a
      case nvr => exact PS_imp (ps_never) fun D σ H ⟨G, Rs, F, e, r, q⟩ => q
      case lc x' vs t src ts =>
        match gens, h4, hsw with
        | [⟨tg, iter, ifs, 0⟩], h, hsw =>
          obtain ⟨g1, h9⟩ := (Bool.and_eq_true _ _).mp (show (blkC N sc scope (vs.map fun i => ((N[i]?).getD ("" : Str), i)) && isI tb TB N src sc tg iter && isG tb N (fun y => scope.names.lookup y == some .cell) (relS scope sc) t tg && isT tb TB N ts (relS scope sc) ifs && isE tb TB N x' (relS scope sc) elt &&
            (tSl t).all (fun i => vs.contains i) && tPl t && notSet iter && notStar tg) = true from h)
          obtain ⟨g1, h8⟩ := (Bool.and_eq_true _ _).mp g1
          obtain ⟨g1, h7⟩ := (Bool.and_eq_true _ _).mp g1
          obtain ⟨g1, h6⟩ := (Bool.and_eq_true _ _).mp g1
          obtain ⟨g1, h5⟩ := (Bool.and_eq_true _ _).mp g1
          obtain ⟨g1, k4⟩ := (Bool.and_eq_true _ _).mp g1
          obtain ⟨g1, k3⟩ := (Bool.and_eq_true _ _).mp g1
          obtain ⟨g1, k2⟩ := (Bool.and_eq_true _ _).mp g1
          have ev := own_snd N vs
          have ok := b.ok.toXOk
          have key : PS X (.Assign [.Name x p0] (.ListComp elt [⟨tg, iter, ifs, 0⟩] scope p) pos) (tSM C W fun n => (lcM ((vs.map fun i => ((N[i]?).getD ("" : Str), i)).map (·.2)) t (denI cb K src) (denT cb K ts) (den cb K x') n).toS fun v e1 => sget (setV i v e1)) := by
            refine s_setLc (vs := vs) (elt := elt) ok (denT_lk cb K ts) (den_lk cb K x') (by rw [ev, ← den_lc]; exact den_lk cb K _) (fun i hi => ?_) h7 hi (by rw [b.hs]; exact hl) hsw (isI_ok C cb K n tb TB N src X W sc tg iter ok b.mo b.hN b.hs k2) ?_ (fun s H C' cl fp => ?_) (fun s H C' cl fp => ?_) (fun s H C' cl fp => ?_) (fun v => ?_)
            · rw [ev]
              have := List.all_eq_true.mp h6 i hi
              simpa using this
            · rw [b.hN, b.hs]
              exact blkOk_by g1
            · exact g_ok ok.blk b.mo.blk b.hN (show relS scope X.env.scope = relS scope sc by rw [b.hs]) (fun x hx => hx) t tg k3
            · exact isT_ok C cb K n tb TB N ts _ _ (relS scope sc) ifs ok.blk b.mo.blk b.hN (show relS scope X.env.scope = relS scope sc by rw [b.hs]) k4
            · exact (isE_ok C cb K n tb TB N x' _ _ (relS scope sc) elt ok.blk b.mo.blk b.hN (show relS scope X.env.scope = relS scope sc by rw [b.hs]) h5).1
            · cases iter <;> first | rfl | cases h8
          rw [ev, ← den_lc] at key
          exact key
      case lc2 x' vs t src ts vs1 t1 src1 ts1 =>
        match gens, h4, hsw with
        | [⟨tg, iter, ifs, 0⟩, ⟨tg1, iter1, ifs1, 0⟩], h, hsw =>
          obtain ⟨h1, h13⟩ := (Bool.and_eq_true _ _).mp (show (blkC N sc scope (vs.map fun i => ((N[i]?).getD ("" : Str), i)) && isI tb TB N src sc tg iter && isG tb N (fun y => scope.names.lookup y == some .cell) (relS scope sc) t tg && isT tb TB N ts (relS scope sc) ifs && isI tb TB N src1 (relS scope sc) tg1 iter1 && isG tb N (fun y => scope.names.lookup y == some .cell) (relS scope sc) t1 tg1 && isT tb TB N ts1 (relS scope sc) ifs1 && isE tb TB N x' (relS scope sc) elt &&
            (tSl t).all (fun i => vs.contains i) && (tSl t1).all (fun i => vs1.contains i) && vs1.all (fun i => vs.contains i) && notSet iter && notSet iter1) = true from h)
          obtain ⟨h1, h12⟩ := (Bool.and_eq_true _ _).mp h1
          obtain ⟨h1, h11⟩ := (Bool.and_eq_true _ _).mp h1
          obtain ⟨h1, h10⟩ := (Bool.and_eq_true _ _).mp h1
          obtain ⟨h1, h9⟩ := (Bool.and_eq_true _ _).mp h1
          obtain ⟨h1, h8⟩ := (Bool.and_eq_true _ _).mp h1
          obtain ⟨h1, h7⟩ := (Bool.and_eq_true _ _).mp h1
          obtain ⟨h1, h6⟩ := (Bool.and_eq_true _ _).mp h1
          obtain ⟨h1, h5⟩ := (Bool.and_eq_true _ _).mp h1
          obtain ⟨h1, h4⟩ := (Bool.and_eq_true _ _).mp h1
          obtain ⟨h1, h3⟩ := (Bool.and_eq_true _ _).mp h1
          obtain ⟨h1, h2⟩ := (Bool.and_eq_true _ _).mp h1
          have ev := own_snd N vs
          have ok := b.ok.toXOk
          have key : PS X (.Assign [.Name x p0] (.ListComp elt [⟨tg, iter, ifs, 0⟩, ⟨tg1, iter1, ifs1, 0⟩] scope p) pos) (tSM C W fun n => (lc2M ((vs.map fun i => ((N[i]?).getD ("" : Str), i)).map (·.2)) t (denI cb K src) (denT cb K ts) vs1 t1 (denI cb K src1) (denT cb K ts1) (den cb K x') n).toS fun v e1 => sget (setV i v e1)) := by
            refine s_setLc2 ok (denT_lk cb K ts) (denI_lk cb K src1) (denT_lk cb K ts1) (den_lk cb K x') (by rw [ev, ← den_lc2]; exact den_lk cb K _) (fun i hi => ?_) (fun i hi => ?_) (fun i hi => ?_) hi (by rw [b.hs]; exact hl) hsw (isI_ok C cb K n tb TB N src X W sc tg iter ok b.mo b.hN b.hs h2) ?_ (fun s H C' cl fp => ?_) (fun s H C' cl fp => ?_) (fun s H C' cl fp => ?_) (fun s H C' cl fp => ?_) (fun s H C' cl fp => ?_) (fun s H C' cl fp => ?_) (fun v => ?_) (fun env v => ?_)
            · rw [ev]
              have := List.all_eq_true.mp h9 i hi
              simpa using this
            · have := List.all_eq_true.mp h10 i hi
              simpa using this
            · rw [ev]
              have := List.all_eq_true.mp h11 i hi
              simpa using this
            · rw [b.hN, b.hs]
              exact blkOk_by h1
            · exact g_ok ok.blk b.mo.blk b.hN (show relS scope X.env.scope = relS scope sc by rw [b.hs]) (fun x hx => hx) t tg h3
            · exact isT_ok C cb K n tb TB N ts _ _ (relS scope sc) ifs ok.blk b.mo.blk b.hN (show relS scope X.env.scope = relS scope sc by rw [b.hs]) h4
            · exact isI_ok C cb K n tb TB N src1 _ _ (relS scope sc) tg1 iter1 ok.blk b.mo.blk b.hN (show relS scope X.env.scope = relS scope sc by rw [b.hs]) h5
            · exact g_ok ok.blk b.mo.blk b.hN (show relS scope X.env.scope = relS scope sc by rw [b.hs]) (fun x hx => hx) t1 tg1 h6
            · exact isT_ok C cb K n tb TB N ts1 _ _ (relS scope sc) ifs1 ok.blk b.mo.blk b.hN (show relS scope X.env.scope = relS scope sc by rw [b.hs]) h7
            · exact (isE_ok C cb K n tb TB N x' _ _ (relS scope sc) elt ok.blk b.mo.blk b.hN (show relS scope X.env.scope = relS scope sc by rw [b.hs]) h8).1
            · cases iter <;> first | rfl | cases h12
            · cases iter1 <;> first | rfl | cases h13
          rw [ev, ← den_lc2] at key
          exact key
      case call f io as => cases io <;> exact absurd (show false = true from h4) Bool.false_ne_true
      case pop i o => cases o <;> exact absurd (show false = true from h4) Bool.false_ne_true
      all_goals exact absurd (show false = true from h4) Bool.false_ne_true
    case DictComp =>
      rename_i ke elt gens scope p
      have hsw : swapsWith (.DictComp ke elt gens scope p) (some (.Name x p0)) pos.line X.env = pure true := by rw [hsw, hb]
      have hl : sc.names.lookup x = some .local := by
        unfold swB at hb
        rw [Bool.and_eq_true, Bool.and_eq_true, Bool.and_eq_true] at hb
        exact eq_of_beq hb.1.1.2
      cases a
      case nvr => exact PS_imp (ps_never) fun D σ H ⟨G, Rs, F, e, r, q⟩ => q
      case dc k' x' vs t src ts =>
        match gens, h4, hsw with
        | [⟨tg, iter, ifs, 0⟩], h, hsw =>
          obtain ⟨g1, h9⟩ := (Bool.and_eq_true _ _).mp (show (blkC N sc scope (vs.map fun i => ((N[i]?).getD ("" : Str), i)) && isI tb TB N src sc tg iter && isG tb N (fun y => scope.names.lookup y == some .cell) (relS scope sc) t tg && isT tb TB N ts (relS scope sc) ifs && isE tb TB N k' (relS scope sc) ke && isE tb TB N x' (relS scope sc) elt &&
            (tSl t).all (fun i => vs.contains i) && tPl t && notSet iter && notStar tg) = true from h)
          obtain ⟨g1, h8⟩ := (Bool.and_eq_true _ _).mp g1
          obtain ⟨g1, h7⟩ := (Bool.and_eq_true _ _).mp g1
          obtain ⟨g1, h6⟩ := (Bool.and_eq_true _ _).mp g1
          obtain ⟨g1, h5⟩ := (Bool.and_eq_true _ _).mp g1
          obtain ⟨g1, k10⟩ := (Bool.and_eq_true _ _).mp g1
          obtain ⟨g1, k4⟩ := (Bool.and_eq_true _ _).mp g1
          obtain ⟨g1, k3⟩ := (Bool.and_eq_true _ _).mp g1
          obtain ⟨g1, k2⟩ := (Bool.and_eq_true _ _).mp g1
          have ev := own_snd N vs
          have ok := b.ok.toXOk
          have key : PS X (.Assign [.Name x p0] (.DictComp ke elt [⟨tg, iter, ifs, 0⟩] scope p) pos) (tSM C W fun n => (dcM ((vs.map fun i => ((N[i]?).getD ("" : Str), i)).map (·.2)) t (denI cb K src) (denT cb K ts) (den cb K k') (den cb K x') n).toS fun v e1 => sget (setV i v e1)) := by
            refine s_setDc (vs := vs) (kx := ke) ok (denT_lk cb K ts) (den_lk cb K k') (den_lk cb K x') (by rw [ev, ← den_dc]; exact den_lk cb K _) (fun i hi => ?_) h7 hi (by rw [b.hs]; exact hl) hsw (isI_ok C cb K n tb TB N src X W sc tg iter ok b.mo b.hN b.hs k2) ?_ (fun s H C' cl fp => ?_) (fun s H C' cl fp => ?_) (fun s H C' cl fp => ?_) (fun s H C' cl fp => ?_) (fun v => ?_)
            · rw [ev]
              have := List.all_eq_true.mp h6 i hi
              simpa using this
            · rw [b.hN, b.hs]
              exact blkOk_by g1
            · exact g_ok ok.blk b.mo.blk b.hN (show relS scope X.env.scope = relS scope sc by rw [b.hs]) (fun x hx => hx) t tg k3
            · exact isT_ok C cb K n tb TB N ts _ _ (relS scope sc) ifs ok.blk b.mo.blk b.hN (show relS scope X.env.scope = relS scope sc by rw [b.hs]) k4
            · exact (isE_ok C cb K n tb TB N k' _ _ (relS scope sc) ke ok.blk b.mo.blk b.hN (show relS scope X.env.scope = relS scope sc by rw [b.hs]) k10).1
            · exact (isE_ok C cb K n tb TB N x' _ _ (relS scope sc) elt ok.blk b.mo.blk b.hN (show relS scope X.env.scope = relS scope sc by rw [b.hs]) h5).1
            · cases iter <;> first | rfl | cases h8
          rw [ev, ← den_dc] at key
          exact key
      case call f io as => cases io <;> exact absurd (show false = true from h4) Bool.false_ne_true
      case pop i o => cases o <;> exact absurd (show false = true from h4) Bool.false_ne_true
      all_goals exact absurd (show false = true from h4) Bool.false_ne_true
theorem swOk_ok {tg e : Expr} {env : Env} {sc : Scope} (hs : env.scope = sc) (h : swOk sc tg e = true) (ht : isTp tg = true ∨ notTup tg = true) (hl : ∀ es p, tg ≠ .List es p) : swappedStores [tg] e env = pure none := by
  cases tg <;> first | (exact absurd rfl (hl _ _)) | skip
  case Tuple ts k p =>
    cases e <;> first | rfl | skip
    subst hs; exact noSwap_ok h
  all_goals first | rfl | (cases e <;> rfl)
theorem nb : ∀ {b : Bool}, (!b) = true → b = false
  | false, _ => rfl
  | true, h => absurd h (by decide)
theorem swap3 {a b c : Expr} {env : Env} {x y z : Str} {px py pz pt pt2 : Pos} {kt k2 : Nat} (hk : env.scope.kind = .function) (hx : env.scope.names.lookup x = some .local) (hy : env.scope.names.lookup y = some .local) (hz : env.scope.names.lookup z = some .local) (hl : py.line = px.line) (hl2 : pz.line = px.line) (hxy : (x == y) = false) (hxz : (x == z) = false) (hyz : (y == z) = false)
    (ha : notStar a = true) (hb : notStar b = true) (hc0 : notStar c = true) (hf : (foldedForSure 8 a && foldedForSure 8 b && foldedForSure 8 c) = false) (hc : (constantsAlone 8 a && constantsAlone 8 b && constantsAlone 8 c) = false) :
    swappedStores [.Tuple [.Name x px, .Name y py, .Name z pz] kt pt] (.Tuple [a, b, c] k2 pt2) env = pure (some [x, y, z]) := by
  have hbk : env.blockKind = .function := by unfold Env.blockKind; rw [hk]; rfl
  have flip : ∀ {u v : Str}, (u == v) = false → (v == u) = false := fun {u v} h => by
    rw [Bool.eq_false_iff] at h ⊢
    intro w
    exact h (by rw [eq_of_beq w]; exact beq_self_eq_true _)
  have e1 := flip hxy
  have e2 := flip hxz
  have e3 := flip hyz
  have f1 : (foldedForSure 8 a && (foldedForSure 8 b && foldedForSure 8 c)) = false := by rw [← Bool.and_assoc]; exact hf
  have f2 : (constantsAlone 8 a && (constantsAlone 8 b && constantsAlone 8 c)) = false := by rw [← Bool.and_assoc]; exact hc
  unfold swappedStores
  simp [hbk, Env.kindOf, hx, hy, hz, hl, hl2, f1, f2, Expr.pos, List.eraseDups_cons, e1, e2, e3]
  rintro (h | h | h)
  · cases a <;> first | (cases h; done) | (cases ha; done)
  · cases b <;> first | (cases h; done) | (cases hb; done)
  · cases c <;> first | (cases h; done) | (cases hc0; done)
theorem f_list {X : Cx} {W : WX} (ok : XOk C W X) (mo : Mo C X cb K n tb TB) (hN : X.N = N) (hs : X.env.scope = sc) : ∀ (as : List E) (vs : List Expr), vs.all notStar = true → isL tb TB N as sc vs = true → PA X vs (tG C W (vFs C) (denF cb K as))
  | [], [], _, _ => f_nil
  | [], _ :: _, _, h => absurd (show false = true from h) Bool.false_ne_true
  | a :: as, [], _, h => by cases a <;> exact absurd (show false = true from h) Bool.false_ne_true
  | a :: as, v :: vs, h2, h => by
    rw [List.all_cons, Bool.and_eq_true] at h2
    have hns : ∀ b, a ≠ .star b := fun b z => by
      subst z
      have hv := h2.1
      cases v <;> first
        | (cases hv; done)
        | (have h := ((Bool.and_eq_true _ _).mp ((Bool.and_eq_true _ _).mp (show (notStar _ && isE tb TB N (.star b) sc _ && isL tb TB N as sc vs) = true from h)).1).2
           exact absurd rfl (notStar_ne h b))
    have h : (notStar v && isE tb TB N a sc v && isL tb TB N as sc vs) = true := by
      cases a <;> first | exact h | exact absurd rfl (hns _)
    obtain ⟨h1, h3⟩ := (Bool.and_eq_true _ _).mp h
    obtain ⟨h1, h4⟩ := (Bool.and_eq_true _ _).mp h1
    exact f_cons h1 (isE_ok C cb K n tb TB N a X W sc v ok mo hN hs h4).1 (f_list ok mo hN hs as vs h2.2 h3)
mutual
theorem isS_ok : ∀ s : S, GoodS C cb K n tb TB N sc s
  | .nvr => fun X W st b h => s_nvr
  | .pass => fun X W st b h => by
    match st, h with
    | .Pass p, h => exact s_pass
    | .Expr (.Constant (.str x) k q) p, h => exact s_doc
  | .brk => fun X W st b h => by
    cases st <;> first | (exact absurd (show false = true from h) Bool.false_ne_true) | skip
    exact s_brk
  | .cnt => fun X W st b h => by
    cases st <;> first | (exact absurd (show false = true from h) Bool.false_ne_true) | skip
    exact s_cnt
  | .rai c e => fun X W st b h => by
    cases st <;> exact absurd (show false = true from h) Bool.false_ne_true
  | .retN => fun X W st b h => by
    cases st <;> first | (exact absurd (show false = true from h) Bool.false_ne_true) | skip
    rename_i v p
    cases v <;> first | (exact absurd (show false = true from h) Bool.false_ne_true) | skip
    exact s_retN
  | .ret a => fun X W st b h => by
    cases st <;> first | (exact absurd (show false = true from h) Bool.false_ne_true) | skip
    rename_i v p
    cases v <;> first | (exact absurd (show false = true from h) Bool.false_ne_true) | skip
    exact s_ret (den_lk cb K a) (isE_ok C cb K n tb TB N a X W sc _ b.ok.toXOk b.mo b.hN b.hs h).1
  | .ex a => fun X W st b h => by
    cases st <;> first | (exact absurd (show false = true from h) Bool.false_ne_true) | skip
    rename_i e p
    obtain ⟨h1, h2⟩ := (Bool.and_eq_true _ _).mp (show (noComp e && isE tb TB N a sc e) = true from h)
    exact s_ex h1 (den_lk cb K a) (isE_ok C cb K n tb TB N a X W sc _ b.ok.toXOk b.mo b.hN b.hs h2).1
  | .ite c x y => fun X W st b h => by
    cases st <;> first | (exact absurd (show false = true from h) Bool.false_ne_true) | skip
    rename_i t bx by' p
    obtain ⟨h1, h4⟩ := (Bool.and_eq_true _ _).mp (show (condB t && isE tb TB N c sc t && isB tb TB N sc x bx && isB tb TB N sc y by') = true from h)
    obtain ⟨h1, h3⟩ := (Bool.and_eq_true _ _).mp h1
    obtain ⟨h1, h2⟩ := (Bool.and_eq_true _ _).mp h1
    exact s_if (den_lk cb K c) ((isE_ok C cb K n tb TB N c X W sc _ b.ok.toXOk b.mo b.hN b.hs h2).2.1 h1) (isB_ok x X W bx b h3) (isB_ok y X W by' b h4)
  | .for t src bd => fun X W st b h => by
    cases st <;> first | (exact absurd (show false = true from h) Bool.false_ne_true) | skip
    rename_i tg iter body orelse p
    cases orelse <;> first | (exact absurd (show false = true from h) Bool.false_ne_true) | skip
    obtain ⟨h1, h4⟩ := (Bool.and_eq_true _ _).mp (show (isG tb N (fun _ => true) sc t tg && isI tb TB N src sc tg iter && notSet iter && isB tb TB N sc bd body) = true from h)
    obtain ⟨h1, h3⟩ := (Bool.and_eq_true _ _).mp h1
    obtain ⟨h1, h2⟩ := (Bool.and_eq_true _ _).mp h1
    exact s_for b.ok (denI_lk cb K src) (isI_ok C cb K n tb TB N src X W sc tg iter b.ok.toXOk b.mo b.hN b.hs h2) (g_ok b.ok.toXOk b.mo b.hN b.hs (fun x _ => b.hf x) t tg h1) (isB_ok bd X W body b h4) (fun v => by cases iter <;> first | rfl | cases h3)
  | .whl c bd => fun X W st b h => by
    cases st <;> first | (exact absurd (show false = true from h) Bool.false_ne_true) | skip
    rename_i t body orelse p
    cases orelse <;> first | (exact absurd (show false = true from h) Bool.false_ne_true) | skip
    obtain ⟨h1, h3⟩ := (Bool.and_eq_true _ _).mp (show (condB t && isE tb TB N c sc t && isB tb TB N sc bd body) = true from h)
    obtain ⟨h1, h2⟩ := (Bool.and_eq_true _ _).mp h1
    exact s_whl b.ok (den_lk cb K c) ((isE_ok C cb K n tb TB N c X W sc _ b.ok.toXOk b.mo b.hN b.hs h2).2.1 h1) (isB_ok bd X W body b h3)
  | .aug i op a => fun X W st b h => by
    cases st <;> first | (exact absurd (show false = true from h) Bool.false_ne_true) | skip
    rename_i tg o e p
    cases tg <;> first | (exact absurd (show false = true from h) Bool.false_ne_true) | skip
    rename_i x q
    obtain ⟨g1, h5⟩ := (Bool.and_eq_true _ _).mp (show (decide (N[i]? = some x) && locB sc x && decide (o = opr op) && (decide (op = .add) || decide (op = .sub)) && isE tb TB N a sc e) = true from h)
    obtain ⟨g2, h4⟩ := (Bool.and_eq_true _ _).mp g1
    obtain ⟨g3, h3⟩ := (Bool.and_eq_true _ _).mp g2
    obtain ⟨g4, h2⟩ := (Bool.and_eq_true _ _).mp g3
    have hop := of_decide_eq_true h3
    subst hop
    have ho : op = .add ∨ op = .sub := by simpa using h4
    have ha := (isE_ok C cb K n tb TB N a X W sc _ b.ok.toXOk b.mo b.hN b.hs h5).1
    rcases ho with rfl | rfl <;> exact s_aug b.ok.toXOk (by first | exact .inl rfl | exact .inr rfl) (by rw [b.hN]; exact of_decide_eq_true g4) (locB_at h2 b.hs) (.inl (b.hf x)) (den_lk cb K a) ha
  | .seti i k v => fun X W st b h => by
    cases st <;> first | (exact absurd (show false = true from h) Bool.false_ne_true) | skip
    rename_i tgs e p
    match tgs, h with
    | [.Subscript (.Name y q) s q2], h =>
      obtain ⟨h1, h5⟩ := (Bool.and_eq_true _ _).mp (show (decide (N[i]? = some y) && visB sc y && notSl s && isE tb TB N v sc e && isE tb TB N k sc s) = true from h)
      obtain ⟨h1, h4⟩ := (Bool.and_eq_true _ _).mp h1
      obtain ⟨h1, h3⟩ := (Bool.and_eq_true _ _).mp h1
      obtain ⟨h1, h2⟩ := (Bool.and_eq_true _ _).mp h1
      obtain ⟨v1, v2, v3⟩ := visB_at h2 b.hs
      exact s_seti b.ok.toXOk h3 (pe_var (by rw [b.hN]; exact of_decide_eq_true h1) v1 v2 v3) (den_lk cb K v) (den_lk cb K k) (isE_ok C cb K n tb TB N v X W sc _ b.ok.toXOk b.mo b.hN b.hs h4).1 (isE_ok C cb K n tb TB N k X W sc _ b.ok.toXOk b.mo b.hN b.hs h5).1
  | .par is as => fun X W st b h => by
    match st, h with
    | .Assign [.Tuple ts kt pt] (.Tuple vs k2 pt2) pos, h =>
      obtain ⟨h1, h3⟩ := (Bool.and_eq_true _ _).mp (show (parChk N sc is ts vs && vs.all notStar && isL tb TB N as sc vs) = true from h)
      obtain ⟨h1, h2⟩ := (Bool.and_eq_true _ _).mp h1
      have hpa := f_list C cb K n tb TB N sc b.ok.toXOk b.mo b.hN b.hs as vs h2 h3
      have ok := b.ok.toXOk
      unfold parChk at h1
      split at h1
      · rename_i i j x px y py e1 e2
        obtain ⟨h1, k9⟩ := (Bool.and_eq_true _ _).mp h1
        obtain ⟨h1, k8⟩ := (Bool.and_eq_true _ _).mp h1
        obtain ⟨h1, k7⟩ := (Bool.and_eq_true _ _).mp h1
        obtain ⟨h1, k6⟩ := (Bool.and_eq_true _ _).mp h1
        obtain ⟨h1, k5⟩ := (Bool.and_eq_true _ _).mp h1
        obtain ⟨h1, k4⟩ := (Bool.and_eq_true _ _).mp h1
        obtain ⟨h1, k3⟩ := (Bool.and_eq_true _ _).mp h1
        obtain ⟨h1, k2⟩ := (Bool.and_eq_true _ _).mp h1
        have hx := lclB_at k4 b.hs
        have hy := lclB_at k5 b.hs
        rw [List.all_cons, List.all_cons, Bool.and_eq_true, Bool.and_eq_true] at h2
        exact s_par2 ok (by rw [b.hN]; exact of_decide_eq_true h1) (by rw [b.hN]; exact of_decide_eq_true k2) (of_decide_eq_true k3) hx hy (swap2 (by rw [b.hs]; exact b.kd) hx hy (eq_of_beq k6) (by simpa using k7) h2.1 h2.2.1 (nb k8) (nb k9)) (denF_lk cb K as) hpa
      · rename_i i j l x px y py z pz e1 e2 e3
        obtain ⟨g1, k16⟩ := (Bool.and_eq_true _ _).mp h1
        obtain ⟨g2, k15⟩ := (Bool.and_eq_true _ _).mp g1
        obtain ⟨g3, k14⟩ := (Bool.and_eq_true _ _).mp g2
        obtain ⟨g4, k13⟩ := (Bool.and_eq_true _ _).mp g3
        obtain ⟨g5, k12⟩ := (Bool.and_eq_true _ _).mp g4
        obtain ⟨g6, k11⟩ := (Bool.and_eq_true _ _).mp g5
        obtain ⟨g7, k10⟩ := (Bool.and_eq_true _ _).mp g6
        obtain ⟨g8, k9⟩ := (Bool.and_eq_true _ _).mp g7
        obtain ⟨g9, k8⟩ := (Bool.and_eq_true _ _).mp g8
        obtain ⟨g10, k7⟩ := (Bool.and_eq_true _ _).mp g9
        obtain ⟨g11, k6⟩ := (Bool.and_eq_true _ _).mp g10
        obtain ⟨g12, k5⟩ := (Bool.and_eq_true _ _).mp g11
        obtain ⟨g13, k4⟩ := (Bool.and_eq_true _ _).mp g12
        obtain ⟨g14, k3⟩ := (Bool.and_eq_true _ _).mp g13
        obtain ⟨k1, k2⟩ := (Bool.and_eq_true _ _).mp g14
        have hx := lclB_at k7 b.hs
        have hy := lclB_at k8 b.hs
        have hz := lclB_at k9 b.hs
        rw [List.all_cons, List.all_cons, List.all_cons, Bool.and_eq_true, Bool.and_eq_true, Bool.and_eq_true] at h2
        exact s_par3 ok (by rw [b.hN]; exact of_decide_eq_true k1) (by rw [b.hN]; exact of_decide_eq_true k2) (by rw [b.hN]; exact of_decide_eq_true k3) (of_decide_eq_true k4) (of_decide_eq_true k5) (of_decide_eq_true k6) hx hy hz
          (swap3 (by rw [b.hs]; exact b.kd) hx hy hz (eq_of_beq k10) (eq_of_beq k11) (by simpa using k12) (by simpa using k13) (by simpa using k14) h2.1 h2.2.1 h2.2.2.1 (nb k15) (nb k16)) (denF_lk cb K as) hpa
      · cases h1
  | .set t a => fun X W st b h => by
    cases st <;> first | (exact absurd (show false = true from h) Bool.false_ne_true) | (cases t <;> exact absurd (show false = true from h) Bool.false_ne_true) | skip
    rename_i tgs e p
    match tgs, h with
    | [tg], h =>
      have gen : (isTT t && isTp tg || isTF t) = true → isG tb N (fun _ => true) sc t tg = true → isE tb TB N a sc e = true → swOk sc tg e = true → PS X (.Assign [tg] e p) (tSM C W (denS cb K (.set t a))) := fun g1 g2 g3 g4 => by
        have ha := (isE_ok C cb K n tb TB N a X W sc e b.ok.toXOk b.mo b.hN b.hs g3).1
        have hg := g_ok b.ok.toXOk b.mo b.hN b.hs (fun x _ => b.hf x) t tg g2
        have ht : isTp tg = true ∨ (∃ o f q, tg = .Attribute o f q) := by
          rw [Bool.or_eq_true, Bool.and_eq_true] at g1
          rcases g1 with g1 | g1
          · exact .inl g1.2
          · right
            cases t <;> first | (cases g1; done) | skip
            cases tg <;> first | (exact absurd (show false = true from g2) Bool.false_ne_true) | skip
            exact ⟨_, _, _, rfl⟩
        have hd : denS cb K (.set t a) = fun n => (den cb K a n).toS fun v e1 => (match fzv e1 v with
            | some (d, e2) => sget (setT t d e2)
            | none => .bad) := by
          rw [Bool.or_eq_true, Bool.and_eq_true] at g1
          cases t with
          | v i => rcases g1 with g1 | g1 <;> first | (cases g1.1; done) | (cases g1; done)
          | fld _ _ _ => rfl
          | t _ => rfl
        rw [hd]
        rcases ht with ht | ⟨o, f, q, rfl⟩
        · cases tg <;> first | (cases ht; done) | skip
          refine s_setT ?_ (swOk_ok b.hs g4 (.inl rfl) (fun es p z => by cases z)) rfl (den_lk cb K a) ha hg
          cases e <;> rfl
        · refine s_setT ?_ ?_ rfl (den_lk cb K a) ha hg
          · cases e <;> rfl
          · cases e <;> rfl
      by_cases hv : ∃ i x q, t = .v i ∧ tg = .Name x q
      · obtain ⟨i, x, q, rfl, rfl⟩ := hv
        obtain ⟨h1, h4⟩ := (Bool.and_eq_true _ _).mp (show (decide (N[i]? = some x) && locB sc x && (noComp e || isLc e) && isE tb TB N a sc e) = true from h)
        obtain ⟨h1, h3⟩ := (Bool.and_eq_true _ _).mp h1
        obtain ⟨h1, h2⟩ := (Bool.and_eq_true _ _).mp h1
        exact setV_all C cb K n tb TB N sc b (of_decide_eq_true h1) h2 h3 h4
      · have h : ((isTT t && isTp tg || isTF t) && isG tb N (fun _ => true) sc t tg && isE tb TB N a sc e && swOk sc tg e) = true := by
          cases t with
          | v i => cases tg <;> first | exact h | exact absurd ⟨_, _, _, rfl, rfl⟩ hv
          | fld _ _ _ => exact h
          | t _ => exact h
        obtain ⟨h1, h4⟩ := (Bool.and_eq_true _ _).mp h
        obtain ⟨h1, h3⟩ := (Bool.and_eq_true _ _).mp h1
        obtain ⟨h1, h2⟩ := (Bool.and_eq_true _ _).mp h1
        exact gen h1 h2 h3 h4
    | [], h => cases t <;> exact absurd (show false = true from h) Bool.false_ne_true
    | tg :: _ :: _, h => cases tg <;> cases t <;> exact absurd (show false = true from h) Bool.false_ne_true
theorem isB_ok : ∀ s : List S, GoodB C cb K n tb TB N sc s
  | [] => fun X W st b h => by
    cases st with
    | nil => exact ss_nil
    | cons s r => exact absurd (show false = true from h) Bool.false_ne_true
  | s :: r => fun X W st b h => by
    cases st with
    | nil => exact absurd (show false = true from h) Bool.false_ne_true
    | cons s' r' =>
      obtain ⟨h1, h2⟩ := (Bool.and_eq_true _ _).mp (show (isS tb TB N sc s s' && isB tb TB N sc r r') = true from h)
      exact ss_cons (isS_ok s X W s' b h1) (isB_ok r X W r' b h2)
end
end RT

set_option Elab.async false
set_option linter.all false
set_option maxRecDepth 100000
/-! CoreZa: all defs, by the number of calls in one another. -/
namespace RT
open PySem PySem.Spec PyProof.Rows L2
structure DefG (C : Ct) (tb : Tab) (TB : Nat → Option Fn) (f : Nat) (d : Fn) (fd : FuncData) (ps : List Str) : Prop where
  ex : ∃ x qual params body scope N, FunD C.K x qual params body scope [] [] (C.fnA f) fd ∧ FnScope N ps scope ∧ isB tb TB N scope d.body body = true ∧ d.ns = N.length
  np : d.np = ps.length
  bi : Binds C.K fd ps []
/-- what is known of the text -/
structure Md (C : Ct) (P : Program) (w : World) (mg : Str → Option Value) (base : Heap) (Kc : Nat → Option D) (tb : Tab) (TB : Nat → Option Fn) : Prop where
  is : IsOk C
  df : ∀ f d, TB f = some d → ∃ fd ps, DefG C tb TB f d fd ps
  fn : ∀ x f d, tb.fns.lookup x = some f → TB f = some d → mg x = some (.ref (C.fnA f)) ∧ PySem.W.keepIn C.K (.ref (C.fnA f)) = true ∧ (x == ("__debug__" : Str)) = false
  cl : ∀ x c f, tb.cls.lookup x = some (c, f) → mg x = some (.ref (C.clA c)) ∧ (x == ("__debug__" : Str)) = false ∧ C.cs c = true ∧ Mk C.K (C.clA c) (C.fnA f)
  gl : ∀ x g, tb.glb.lookup x = some g → ∃ u v d, mg x = some u ∧ RelV v u ∧ Kc g = some d ∧ ∀ F, Rep C F v d
  bl : ∀ x ∈ blNames, mg x = none
  fd : ∀ c f k, (c, f, k) ∈ tb.fld → ∃ p, SlX.Slot1 C.K (C.clA c) f p k
  pr : ∀ c x f, (c, x, f) ∈ tb.prp → C.cs c = true ∧ PropK C c f x ∧ ∃ d, TB f = some d ∧ d.io = false ∧ d.np = 1
section
variable {C : Ct} {P : Program} {w : World} {mg : Str → Option Value} {base : Heap} {Kc : Nat → Option D} {tb : Tab} {TB : Nat → Option Fn}
theorem callF_ar {n f : Nat} {d : Fn} {ds : List D} (hT : TB f = some d) (h : ds.length ≠ d.np) : callF TB Kc n f ds = .bad := by
  cases n with
  | zero => rfl
  | succ n =>
    rw [callF]
    dsimp only
    rw [hT]
    dsimp only
    rw [if_neg h]
theorem callF_at {n f : Nat} {d : Fn} {ds : List D} (hT : TB f = some d) (h : ds.length = d.np) : callF TB Kc (n + 1) f ds = kindR d ds (finR d (denB (callF TB Kc n) Kc d.body (startN d ds))) := by
  rw [callF]
  dsimp only
  rw [hT]
  dsimp only
  rw [if_pos h]
theorem Md.mo (m : Md C P w mg base Kc tb TB) {n : Nat} {X : Cx} (hr : Room (2 * n + 1) X.A) (e1 : X.prog = P) (e2 : X.w = w) (e3 : X.K = C.K) (e4 : X.mg = mg) (e5 : X.base = base)
    (ih : ∀ f d, TB f = some d → ∃ fd ps, FnOk P w C.K mg base (L2.CX P w) (2 * n) (C.fnA f) fd ps (spF C (callF TB Kc n) f d.io d.np) ∧ Binds C.K fd ps []) : Mo C X (callF TB Kc n) Kc n tb TB := by
  subst e1 e2 e4 e5
  have cr : ∀ f d, TB f = some d → CallR1 C X (callF TB Kc n) n f d.io d.np := fun f d hT => ⟨fun ds h => callF_ar hT h, by rw [e3]; exact ih f d hT⟩
  refine ⟨hr, fun x f d h1 h2 => ?_, fun x c f d h1 h2 h3 h4 => ?_, fun x c f h => ⟨(m.cl x c f h).1, (m.cl x c f h).2.2.1⟩, m.gl, m.bl, m.fd, fun c x f h => ?_⟩
  · obtain ⟨a, b, c⟩ := m.fn x f d h1 h2
    exact ⟨a, by rw [e3]; exact b, c, fun ds h => callF_ar h2 h, (cr f d h2).ok⟩
  · obtain ⟨a, b, c', k⟩ := m.cl x c f h1
    have := cr f d h2
    rw [h3] at this
    refine ⟨c', a, b, by rw [e3]; exact k, ?_⟩
    rw [Nat.sub_add_cancel h4]
    exact this
  · obtain ⟨a, b, d, h1, h2, h3⟩ := m.pr c x f h
    have := cr f d h1
    rw [h2, h3] at this
    exact ⟨a, b, this⟩
theorem fn_ok (m : Md C P w mg base Kc tb TB) : ∀ (n f : Nat) (d : Fn) (fd : FuncData) (ps : List Str), TB f = some d → DefG C tb TB f d fd ps → FnOk P w C.K mg base (L2.CX P w) (2 * n) (C.fnA f) fd ps (spF C (callF TB Kc n) f d.io d.np)
  | 0, f, d, fd, ps, hT, g => by
    refine ⟨fun vs H Q E ⟨F, _, hl, _⟩ => hl.trans g.np, fun A outer s H args us vs Q E hr e0 hb r ⟨F, _, _, h⟩ => ?_⟩
    exfalso
    split at h
    · obtain ⟨p, O, d', ds, ws, _, _, _, _, h⟩ := h
      exact h
    · obtain ⟨ds, _, h⟩ := h
      exact h
  | n + 1, f, d, fd, ps, hT, g => by
    obtain ⟨x, qual, params, body, scope, N, FD, S, hB, hns⟩ := g.ex
    have hpl : ps.length ≤ N.length := by
      have := congrArg List.length S.pre
      rw [List.length_take] at this
      omega
    refine FunD.ok (k := 2 * n + 1) FD S (fun vs H Q E ⟨F, _, hl, _⟩ => hl.trans g.np) fun cdv A outer s H vs Q E hr hsp => ?_
    have mo := m.mo (X := cxOf (L2.CX P w) P w C.K mg base N qual scope (C.fnA f) cdv A outer s H E) hr rfl rfl rfl rfl rfl fun f d hT => by
      obtain ⟨fd, ps, g⟩ := m.df f d hT
      exact ⟨fd, ps, fn_ok m n f d fd ps hT g, g.bi⟩
    have sok : SOk C (fun cls x _ H => E cls x H) (cxOf (L2.CX P w) P w C.K mg base N qual scope (C.fnA f) cdv A outer s H E) :=
      ⟨⟨rfl, rfl, L2.takes_of rfl rfl rfl rfl, S.nd, by have := hr.un; show (A.deeper (envOfC qual scope s.heap.objs.size (C.fnA f) cdv)).units + 70 < _; omega, m.is⟩, L2.passes_of rfl⟩
    refine ⟨_, isB_ok C (callF TB Kc n) Kc n tb TB N scope d.body _ _ body ⟨sok, mo, rfl, rfl, fun _ => rfl, S.kind⟩ hB, ?_⟩
    obtain ⟨F, sF, hl, h⟩ := hsp
    cases hio : d.io with
    | false =>
      rw [hio, if_neg Bool.false_ne_true] at h
      obtain ⟨ds, hr, h⟩ := h
      have hld : ds.length = d.np := by rw [← hr.length]; exact hl
      rw [callF_at hT hld] at h
      exact ⟨_, _, F, _, start_rel hio hns (by rw [hld, g.np]; exact hpl) sF hr, fin_no hio h⟩
    | true =>
      rw [hio, if_pos rfl] at h
      obtain ⟨p, O, d0, ds, ws, rfl, f0, ho, hr, h⟩ := h
      have hld : (d0 :: ds).length = d.np := by rw [List.length_cons, ← hr.length]; exact hl
      rw [callF_at hT hld] at h
      have hlt : ds.length + 1 ≤ N.length := by
        rw [List.length_cons] at hld
        rw [hld, g.np]
        exact hpl
      obtain ⟨dx, dx1, dx2, rel⟩ := start_relIo hio hns hlt sF f0 ho hr
      refine ⟨_, _, F, _, rel, fin_io hio ?_ (start_get rfl) dx1 dx2 h⟩
      unfold startN
      rw [hio]
      rfl
end
end RT

set_option Elab.async false
set_option linter.all false
set_option maxRecDepth 100000
/-! CoreZb: a def's facts by one Bool. -/
namespace RT
open PySem PySem.Spec PyProof.Rows L2
theorem zip_has : ∀ {ps : List Str} {us : List Value} {x : Str}, us.length = ps.length → x ∈ ps → ((ps.zip us).lookup x).isSome = true
  | [], _, _, _, h => nomatch h
  | p :: ps, [], _, hl, _ => nomatch hl
  | p :: ps, u :: us, x, hl, h => by
    rw [List.zip_cons_cons, List.lookup_cons]
    cases q : x == p with
    | true => rfl
    | false =>
      rcases List.mem_cons.mp h with rfl | h
      · rw [beq_self_eq_true] at q; cases q
      · exact zip_has (by simpa using hl) h
theorem zip_back : ∀ {ps : List Str} {us : List Value}, us.length = ps.length → ps.Nodup → (ps.filterMap fun n => ((ps.zip us).lookup n).map (n, ·)) = ps.zip us
  | [], _, _, _ => rfl
  | p :: ps, [], hl, _ => nomatch hl
  | p :: ps, u :: us, hl, nd => by
    rw [List.nodup_cons] at nd
    rw [List.zip_cons_cons, List.filterMap_cons, List.lookup_cons, beq_self_eq_true]
    dsimp only [Option.map]
    congr 1
    have ih := zip_back (ps := ps) (us := us) (by simpa using hl) nd.2
    refine Eq.trans ?_ ih
    have : ∀ (l : List Str), (∀ x ∈ l, x ≠ p) → (l.filterMap fun n => (((p, u) :: ps.zip us).lookup n).map (n, ·)) = l.filterMap fun n => ((ps.zip us).lookup n).map (n, ·) := fun l => by
      induction l with
      | nil => intro _; rfl
      | cons x l ih =>
        intro h
        have hx : (x == p) = false := by simpa using h x List.mem_cons_self
        rw [List.filterMap_cons, List.filterMap_cons, ih fun y hy => h y (List.mem_cons_of_mem _ hy), List.lookup_cons, hx]
    exact this ps fun x hx z => nd.1 (z ▸ hx)
theorem bind_plain {fd : FuncData} {us : List Value} (h : parB fd.params = true) (hd : fd.defaults = .none) (nd : (parN fd.params).Nodup) (hl : us.length = (parN fd.params).length) : bindArgs fd ⟨us, []⟩ = pure ((parN fd.params).zip us) := by
  unfold parB at h
  rw [Bool.and_eq_true, Bool.and_eq_true, Bool.and_eq_true] at h
  obtain ⟨⟨⟨h1, h2⟩, h3⟩, h4⟩ := h
  have e1 : fd.params.posonlyargs = [] := by simpa using h1
  have e2 : fd.params.kwonlyargs = [] := by simpa using h2
  have e3 : fd.params.vararg = none := by simpa using h3
  have e4 : fd.params.kwarg = none := by simpa using h4
  have hm : ((parN fd.params).filter fun n => (((parN fd.params).zip us).lookup n).isNone) = [] := by
    rw [List.filter_eq_nil_iff]
    intro x hx
    have := zip_has hl hx
    cases q : ((parN fd.params).zip us).lookup x with
    | none => rw [q] at this; cases this
    | some v => simp
  have hb := zip_back hl nd
  unfold parN at hm hb hl ⊢
  unfold bindArgs
  simp only [e1, e2, e3, e4, hd, List.map_nil, List.nil_append, List.forIn_nil, pure_bind, bind_assoc]
  generalize List.map (fun x : Arg => x.arg) fd.params.args = L at hl hm hb ⊢
  have e0 : seqItems? Value.none = pure none := rfl
  rw [e0, pure_bind]
  have hgt : decide (us.length > L.length) = false := by rw [hl]; simp
  simp [hgt, hm, hb, List.drop_length]
theorem scB_ok {N P : List Str} {sc : Scope} (h : scB N P sc = true) : FnScope N P sc := by
  unfold scB at h
  simp only [Bool.and_eq_true, decide_eq_true_eq, Bool.not_eq_true', List.all_eq_true] at h
  obtain ⟨⟨⟨⟨⟨⟨h1, h2⟩, h3⟩, h4⟩, h5⟩, h6⟩, h7⟩ := h
  refine ⟨h1, h2, h3, h4, h5, fun x hx => ?_, fun y hy => h7 y hy⟩
  have := h6 x hx
  unfold locB at this
  split at this
  · exact .inl (by assumption)
  · exact .inr (by assumption)
  · cases this
theorem fnB_ok {C : Ct} {tb : Tab} {TB : Nat → Option Fn} {f : Nat} {d : Fn} {N : List Str} (h : fnB tb TB C.K (C.fnA f) d N = true) : ∃ fd ps, DefG C tb TB f d fd ps := by
  unfold fnB at h
  rw [Bool.and_eq_true] at h
  obtain ⟨hk, h⟩ := h
  split at h
  · rename_i oc od fd osl hl
    unfold fdB at h
    simp only [Bool.and_eq_true, decide_eq_true_eq, List.isEmpty_iff] at h
    obtain ⟨⟨⟨⟨⟨⟨⟨⟨⟨⟨h1, h2⟩, h3⟩, h4⟩, h5⟩, h6⟩, h7⟩, h8⟩, h9⟩, h10⟩, h11⟩ := h
    split at h1
    · rename_i body hb
      obtain ⟨n1, n2, n3, n4, n5, n6, n7, n8, n9, n10, n11, n12, n13, n14, n15⟩ := fd
      dsimp only at h1 h2 h3 h4 h5 h6 h7 h8 h9 h10 h11 hb
      have e8 : n8 = .none := by cases n8 <;> first | rfl | cases h4
      subst hb h2 h3 h5 e8
      refine ⟨_, parN n3, ⟨n1, n2, n3, body, n5, N, ⟨⟨oc, od, .none, n9, n10, n11, n12, n13, n14, osl, rfl, hl, h6, .inl ⟨rfl, rfl⟩, .inl rfl⟩, hk⟩, scB_ok h9, h1, h11⟩, h10, Binds.all fun us hl => bind_plain h7 rfl h8 hl⟩
    · cases h1
  · cases h
/-! ### classes -/
theorem sclB_ok {K : PySem.W.Frag} {a : Addr} (h : sclB K a = true) : SlX.SCls K a ∧ SlX.SIsi K a := by
  unfold sclB at h
  simp only [Bool.and_eq_true, decide_eq_true_eq] at h
  obtain ⟨⟨⟨⟨⟨⟨⟨h1, h2⟩, h3⟩, h4⟩, h5⟩, h6⟩, h7⟩, h8⟩ := h
  exact ⟨⟨h1, h2, h3, h4⟩, ⟨h5, h6, h7, h8⟩⟩
theorem slotB_ok {K : PySem.W.Frag} {a : Addr} {f : Str} {k : Nat} (h : slotB K a f k = true) : ∃ p, SlX.Slot1 K a f p k := by
  unfold slotB at h
  split at h
  · rename_i p hp
    simp only [Bool.and_eq_true, decide_eq_true_eq] at h
    obtain ⟨⟨⟨⟨h1, h2⟩, h3⟩, h4⟩, h5⟩ := h
    exact ⟨p, hp, h1, h2, h3, h4, h5⟩
  · cases h
theorem propB_ok {C : Ct} {c f : Nat} {x : Str} (h : propB C.K (C.clA c) (C.fnA f) x = true) : PropK C c f x := by
  unfold propB at h
  split at h
  · rename_i p hp
    simp only [Bool.and_eq_true, decide_eq_true_eq] at h
    obtain ⟨⟨h1, h2⟩, h3⟩ := h
    split at h3
    · rename_i q rest hq
      obtain rfl := of_decide_eq_true h3
      exact ⟨p, hp, h1, h2, rest, hq⟩
    · cases h3
  · cases h
theorem mkB_ok {K : PySem.W.Frag} {a g : Addr} (h : mkB K a g = true) : Mk K a g := by
  unfold mkB at h
  simp only [Bool.and_eq_true, decide_eq_true_eq] at h
  obtain ⟨⟨⟨h1, h2⟩, h3⟩, h4⟩ := h
  exact ⟨h1, h2, h3, h4⟩
end RT

set_option Elab.async false
set_option linter.all false
set_option maxRecDepth 100000
/-! CoreZc: a text's facts by one Bool. -/
namespace RT
open PySem PySem.Spec PyProof.Rows L2
def Gc.d : Gc → D
  | .int i => .int i
  | .str x => .str x
  | .tI is => .tup (is.map D.int)
  | .tS xs => .tup (xs.map D.str)
def Txt.Kc (t : Txt) : Nat → Option D := fun g => (t.glb.lookup g).map (·.2.d)
theorem lookup_mem {α : Type} : ∀ {l : List (Nat × α)} {n : Nat} {a : α}, l.lookup n = some a → (n, a) ∈ l
  | [], n, a, h => by cases h
  | (m, b) :: r, n, a, h => by
    rw [List.lookup_cons] at h
    split at h
    · rename_i q
      have := eq_of_beq q
      subst this; cases h
      exact List.mem_cons_self
    · exact List.mem_cons_of_mem _ (lookup_mem h)
theorem lookup_nd {α : Type} : ∀ {l : List (Nat × α)} {n : Nat} {a : α}, ndB (l.map (·.1)) = true → (n, a) ∈ l → l.lookup n = some a
  | [], n, a, _, h => by cases h
  | (m, b) :: r, n, a, nd, h => by
    simp only [List.map_cons, ndB, Bool.and_eq_true, Bool.not_eq_true'] at nd
    rw [List.lookup_cons]
    rcases List.mem_cons.mp h with h | hr
    · cases h
      rw [beq_self_eq_true]
    · have : (n == m) = false := by
        rw [beq_eq_false_iff_ne]
        intro q
        subst q
        have := nd.1
        rw [← Bool.not_eq_true] at this
        exact this (List.contains_iff_mem.mpr (List.mem_map.mpr ⟨(n, a), hr, rfl⟩))
      rw [this]
      exact lookup_nd nd.2 hr
section
variable {t : Txt} {K : PySem.W.Frag} {h : Heap} {mg : Str → Option Value}
theorem fnsOf_at : ∀ {l : List (Nat × Pl × Fn × List Str)} {x : Str} {f : Nat}, (fnsOf l).lookup x = some f → ∃ q, (f, q) ∈ l ∧ q.1 = .g x
  | [], x, f, h => by simp [fnsOf] at h
  | (n, pl, fd) :: r, x, f, h => by
    have rest : (fnsOf r).lookup x = some f → ∃ q, (f, q) ∈ (n, pl, fd) :: r ∧ q.1 = .g x := fun h => by
      obtain ⟨q, h2, h3⟩ := fnsOf_at h
      exact ⟨q, List.mem_cons_of_mem _ h2, h3⟩
    cases pl with
    | g y =>
      simp only [fnsOf, List.lookup_cons] at h
      split at h
      · rename_i hx
        cases h
        exact ⟨_, List.mem_cons_self, by rw [eq_of_beq hx]⟩
      · exact rest h
    | m _ _ => exact rest h
    | p _ _ => exact rest h
theorem clsOf_at : ∀ {l : List (Nat × Str × Nat)} {x : Str} {c f : Nat}, (clsOf l).lookup x = some (c, f) → (c, x, f) ∈ l
  | [], x, c, f, h => by simp [clsOf] at h
  | (n, y, g) :: r, x, c, f, h => by
    simp only [clsOf, List.lookup_cons] at h
    split at h
    · rename_i hx
      cases h
      rw [eq_of_beq hx]
      exact List.mem_cons_self
    · exact List.mem_cons_of_mem _ (clsOf_at h)
theorem glbOf_at : ∀ {l : List (Nat × Str × Gc)} {x : Str} {g : Nat}, (glbOf l).lookup x = some g → ∃ q, (g, x, q) ∈ l
  | [], x, g, h => by simp [glbOf] at h
  | (n, y, q) :: r, x, g, h => by
    simp only [glbOf, List.lookup_cons] at h
    split at h
    · rename_i hx
      cases h
      rw [eq_of_beq hx]
      exact ⟨q, List.mem_cons_self⟩
    · obtain ⟨q', h2⟩ := glbOf_at h
      exact ⟨q', List.mem_cons_of_mem _ h2⟩
theorem repInts {C : Ct} {F : Hp} : ∀ is : List Int, RepL C F ((is.map He.Dv.int).map (He.Dv.v C.K)) (is.map D.int)
  | [] => .nil
  | i :: is => .cons (.int i) (repInts is)
theorem repStrs {C : Ct} {F : Hp} : ∀ is : List Str, RepL C F ((is.map He.Dv.str).map (He.Dv.v C.K)) (is.map D.str)
  | [] => .nil
  | i :: is => .cons (.str i) (repStrs is)
theorem gc_ok (X : K.In h) (G : h.Ns mainGlobals mg) {x : Str} {c : Gc} (hk : c.ok K x = true) : ∃ u v, mg x = some u ∧ RelV v u ∧ ∀ F, Rep (t.C K) F v c.d := by
  cases c with
  | int i =>
    obtain ⟨tk, hm⟩ := He.int_ok X G hk
    exact ⟨_, .int i, hm, ⟨tk, rfl⟩, fun F => .int i⟩
  | str z =>
    obtain ⟨tk, hm⟩ := He.str_ok X G hk
    exact ⟨_, .str z, hm, ⟨tk, rfl⟩, fun F => .str z⟩
  | tI is =>
    obtain ⟨h1, h2⟩ := He.ba (show ((He.Fa.glo x).ok K && He.tupB K x (is.map He.Dv.int)) = true from hk)
    exact ⟨_, .ref (He.ga K x), He.glo_ok X G h1, rfl, fun F => .tup (He.tupB_ok h2 F) (repInts is)⟩
  | tS xs =>
    obtain ⟨h1, h2⟩ := He.ba (show ((He.Fa.glo x).ok K && He.tupB K x (xs.map He.Dv.str)) = true from hk)
    exact ⟨_, .ref (He.ga K x), He.glo_ok X G h1, rfl, fun F => .tup (He.tupB_ok h2 F) (repStrs xs)⟩
theorem Txt.md (hk : t.ok K = true) (X : K.In h) (G : h.Ns mainGlobals mg) (P : Program) (w : World) (base : Heap) : Md (t.C K) P w mg base t.Kc t.tab t.TB := by
  unfold Txt.ok at hk
  simp only [Bool.and_eq_true] at hk
  obtain ⟨⟨⟨⟨⟨⟨h1, h2⟩, ⟨n1, n2⟩, n3⟩, h4⟩, h5⟩, h6⟩, h7⟩ := hk
  have clA : ∀ {c : Nat} {q : Str × Nat}, t.cls.lookup c = some q → (t.C K).clA c = He.ga K q.1 := fun {c q} e => by
    show (match t.cls.lookup c with
      | some q => He.ga K q.1
      | none => 0) = _
    rw [e]
  have fnA : ∀ {f : Nat} {q : Pl × Fn × List Str}, t.fns.lookup f = some q → (t.C K).fnA f = q.1.at K := fun {f q} e => by
    show (match t.fns.lookup f with
      | some q => q.1.at K
      | none => 0) = _
    rw [e]
  have hcl : ∀ {c : Nat} {q : Str × Nat}, t.cls.lookup c = some q → _ := fun {c q} e => List.all_eq_true.mp h2 (c, q) (lookup_mem e)
  have hfn : ∀ {f : Nat} {q : Pl × Fn × List Str}, t.fns.lookup f = some q → _ := fun {f q} e => List.all_eq_true.mp h1 (f, q) (lookup_mem e)
  have hcs : ∀ {c : Nat}, (t.C K).cs c = true → ∃ q, t.cls.lookup c = some q := fun {c} e => Option.isSome_iff_exists.mp e
  refine ⟨⟨fun c hc => ?_, fun c d hc hd => ?_, fun c hc n hn => ?_, fun c hc n hn => ?_⟩, fun f d hd => ?_, fun x f d hx hd => ?_, fun x c f hx => ?_, fun x g hx => ?_, fun x hx => ?_, fun c f k hx => ?_, fun c x f hx => ?_⟩
  · obtain ⟨q, e⟩ := hcs hc
    have z := hcl e
    simp only [Bool.and_eq_true] at z
    have := sclB_ok z.1.1.1.2
    rw [← clA e] at this
    exact this
  · obtain ⟨q, e⟩ := hcs hc
    obtain ⟨q', e'⟩ := hcs hd
    have z := hcl e
    simp only [Bool.and_eq_true] at z
    have z5 := of_decide_eq_true (List.all_eq_true.mp z.1.2 (d, q') (lookup_mem e'))
    rw [clA e, clA e']
    rw [show (t.C K).K = K from rfl, z5]
    by_cases hcd : c = d
    · subst hcd; simp
    · simp [hcd]
  · obtain ⟨q, e⟩ := hcs hc
    have z := hcl e
    simp only [Bool.and_eq_true] at z
    have z6 := List.all_eq_true.mp z.2 n (by
      have : ∀ n ∈ ["int", "bool", "str", "tuple", "list", "dict"], n ∈ tyNames := by decide
      exact this n hn)
    rw [clA e]
    exact of_decide_eq_true ((Bool.and_eq_true _ _).mp z6).1
  · obtain ⟨q, e⟩ := hcs hc
    have z := hcl e
    simp only [Bool.and_eq_true] at z
    have z6 := List.all_eq_true.mp z.2 n (by
      have : ∀ n ∈ ["NoneType", "bool", "int", "str", "list", "tuple", "dict"], n ∈ tyNames := by decide
      exact this n hn)
    rw [clA e]
    exact of_decide_eq_true ((Bool.and_eq_true _ _).mp z6).2
  · obtain ⟨q, e, rfl⟩ := Option.map_eq_some_iff.mp (show (t.fns.lookup f).map (·.2.1) = some d from hd)
    have z := (Bool.and_eq_true _ _).mp (hfn e)
    exact fnB_ok (C := t.C K) (N := q.2.2) (by rw [fnA e]; exact z.1)
  · obtain ⟨q, e2, e3⟩ := fnsOf_at (show (fnsOf t.fns).lookup x = some f from hx)
    have e2 := lookup_nd n1 e2
    have z := (Bool.and_eq_true _ _).mp (hfn e2)
    have z2 := z.2
    rw [e3] at z2
    obtain ⟨z3, z4⟩ := (Bool.and_eq_true _ _).mp z2
    rw [fnA e2, e3]
    refine ⟨He.glo_ok X G z3, ?_, by unfold notDbg at z4; simpa using z4⟩
    have z1 := z.1
    unfold fnB at z1
    rw [e3] at z1
    exact ((Bool.and_eq_true _ _).mp z1).1
  · have e2 := lookup_nd n2 (clsOf_at (show (clsOf t.cls).lookup x = some (c, f) from hx))
    have z := hcl e2
    simp only [Bool.and_eq_true] at z
    rw [clA e2]
    refine ⟨He.glo_ok X G z.1.1.1.1.1, by have := z.1.1.1.1.2; unfold notDbg at this; simpa using this, ?_, mkB_ok z.1.1.2⟩
    show (t.cls.lookup c).isSome = true
    rw [e2]; rfl
  · obtain ⟨q, e2⟩ := glbOf_at (show (glbOf t.glb).lookup x = some g from hx)
    have z := List.all_eq_true.mp h4 _ e2
    obtain ⟨u, v, a1, a2, a3⟩ := gc_ok (t := t) X G z
    exact ⟨u, v, q.d, a1, a2, by
      have z3 := of_decide_eq_true (List.all_eq_true.mp n3 _ e2)
      obtain ⟨q', e3, e4⟩ := Option.map_eq_some_iff.mp z3
      show (t.glb.lookup g).map (·.2.d) = _
      rw [e3]
      show some (q'.2).d = _
      rw [e4], a3⟩
  · exact He.free_ok X G (List.all_eq_true.mp h5 x hx)
  · have z := List.all_eq_true.mp h6 _ (show (c, f, k) ∈ t.fld from hx)
    exact slotB_ok z
  · have z := List.all_eq_true.mp h7 _ (show (c, x, f) ∈ t.prp from hx)
    simp only [Bool.and_eq_true] at z
    obtain ⟨⟨z1, z2⟩, z3⟩ := z
    refine ⟨z1, propB_ok (C := t.C K) z2, ?_⟩
    split at z3
    · rename_i d hd
      simp only [Bool.and_eq_true, Bool.not_eq_true', decide_eq_true_eq] at z3
      exact ⟨d, hd, z3.1, z3.2⟩
    · cases z3
end
end RT

set_option Elab.async false
set_option linter.all false
set_option maxRecDepth 100000
/-! CoreZd: a law's end. -/
namespace RT
open PySem PySem.Spec PyProof.Rows L2
section
variable {t : Txt} {K : PySem.W.Frag} {h : Heap} {mg : Str → Option Value}
theorem repNs {C : Ct} {F : Hp} : ∀ ns : List Int, RepL C F (ns.map V.int) (ns.map D.int)
  | [] => .nil
  | i :: is => .cons (.int i) (repNs is)
theorem fnB_bind {C : Ct} {tb : Tab} {TB : Nat → Option Fn} {f : Nat} {d : Fn} {N : List Str} (h : fnB tb TB C.K (C.fnA f) d N = true) :
    ∃ fd ps, DefG C tb TB f d fd ps ∧ N.take ps.length = ps ∧ ∀ (s : Shared) (us : List Value), us.length = ps.length → BindsTo s fd ⟨us, []⟩ (ps.zip us) := by
  unfold fnB at h
  rw [Bool.and_eq_true] at h
  obtain ⟨hk, h⟩ := h
  split at h
  · rename_i oc od fd osl hl
    unfold fdB at h
    simp only [Bool.and_eq_true, decide_eq_true_eq, List.isEmpty_iff] at h
    obtain ⟨⟨⟨⟨⟨⟨⟨⟨⟨⟨h1, h2⟩, h3⟩, h4⟩, h5⟩, h6⟩, h7⟩, h8⟩, h9⟩, h10⟩, h11⟩ := h
    split at h1
    · rename_i body hb
      obtain ⟨n1, n2, n3, n4, n5, n6, n7, n8, n9, n10, n11, n12, n13, n14, n15⟩ := fd
      dsimp only at h1 h2 h3 h4 h5 h6 h7 h8 h9 h10 h11 hb
      have e8 : n8 = .none := by cases n8 <;> first | rfl | cases h4
      subst hb h2 h3 h5 e8
      exact ⟨_, parN n3, ⟨⟨n1, n2, n3, body, n5, N, ⟨⟨oc, od, .none, n9, n10, n11, n12, n13, n14, osl, rfl, hl, h6, .inl ⟨rfl, rfl⟩, .inl rfl⟩, hk⟩, scB_ok h9, h1, h11⟩, h10, Binds.all fun us hl => bind_plain h7 rfl h8 hl⟩,
        (scB_ok h9).pre, fun s us hl => BindsTo.of_eq (bind_plain h7 rfl h8 hl)⟩
    · cases h1
  · cases h
/-- an exception let out, in any world -/
def CXa (P : Program) : CXT := fun o H s E u s' => ∃ w, L2.CX P w o H s E u s'
theorem cxa {P : Program} {w : World} {K : PySem.W.Frag} {mg : Str → Option Value} {base : Heap} {k : Nat} {f : Addr} {fd : FuncData} {ps : List Str} {sp : Sp} (F : FnOk P w K mg base (L2.CX P w) k f fd ps sp) : FnOk P w K mg base (CXa P) k f fd ps sp :=
  ⟨F.len, fun A outer s H args us vs Q E a b c d e => codeAny_mono (F.run A outer s H args us vs Q E a b c d e) fun r s' hq => by
    cases r with
    | error e => exact ⟨w, hq⟩
    | ok fl => cases fl <;> exact hq⟩
theorem cxa_no {P : Program} (H : Hp) (s : Shared) (e : Value) (s' : Shared) (h : CXa P [] H s (fun _ _ _ => False) e s') : False := by
  obtain ⟨w, h⟩ := h
  exact cx_false h
/-- what walk_ofE asks: x the parameter of the law, its number fn, n the depth -/
theorem law_end {n fn : Nat} {x : Str} {d : Fn} {nm : List Str} {fa : Addr} {P : Program} {w : World} (hk : t.ok K = true) (X : K.In h) (G : h.Ns mainGlobals mg) (hmg : mg ("law" : Str) = some (.ref fa)) (hl : t.fns.lookup fn = some (.g "law", d, nm)) (hnm : nm.head? = some x) (hio : d.io = false) (hnp : d.np = 1)
    (ev : ∀ ns : List Int, ns.length ≤ 63 → ∃ fr io, callF t.TB t.Kc n fn [.sls (ns.map D.int)] = .ok fr (.bl true) io) :
    ∃ (K : PySem.W.Frag) (fd : FuncData) (sp : Sp), K.In h ∧ (∀ (s : Shared) (u : Value), BindsTo s fd ⟨[u], []⟩ [(x, u)]) ∧
      (∀ (H : Hp) (a : Addr) (ns : List Int), ns.length ≤ 63 → Only H → SqL K H a (ns.map V.int) → sp [.ref a] H (fun v _ => v = .bl true) fun _ _ _ => False) ∧
      ∀ base : Heap, K.In base → base.Ns mainGlobals mg → FnOk P w K mg base (CXa P) (2 * n) fa fd [x] sp := by
  have hT : t.TB fn = some d := by show (t.fns.lookup fn).map (·.2.1) = _; rw [hl]; rfl
  have md : ∀ base, Md (t.C K) P w mg base t.Kc t.tab t.TB := fun base => Txt.md hk X G P w base
  have hk2 := hk
  unfold Txt.ok at hk2
  simp only [Bool.and_eq_true] at hk2
  have z := List.all_eq_true.mp hk2.1.1.1.1.1.1 _ (lookup_mem hl)
  have e1 : (t.C K).fnA fn = He.ga K "law" := by
    show (match t.fns.lookup fn with
      | some q => q.1.at K
      | none => 0) = _
    rw [hl]
    rfl
  have hfa : (t.C K).fnA fn = fa := by
    have z2 := ((Bool.and_eq_true _ _).mp ((Bool.and_eq_true _ _).mp z).2).1
    have := He.glo_ok X G z2
    rw [hmg] at this
    rw [e1]
    exact (Value.ref.inj (Option.some.inj this)).symm
  obtain ⟨fd, ps, g, hpre, hbd⟩ := fnB_bind (C := t.C K) (f := fn) (d := d) (N := nm) (by rw [e1]; exact ((Bool.and_eq_true _ _).mp z).1)
  have hps : ps = [x] := by
    have h1 : ps.length = 1 := by rw [← g.np]; exact hnp
    rw [h1] at hpre
    rw [← hpre]
    cases nm with
    | nil => cases hnm
    | cons y ys => cases hnm; rfl
  subst hps
  refine ⟨K, fd, spF (t.C K) (callF t.TB t.Kc n) fn d.io d.np, X, fun s u => hbd s [u] rfl, fun H a ns hlen hO hS => ?_, fun base _ _ => ?_⟩
  · obtain ⟨fr, io, hev⟩ := ev ns hlen
    refine ⟨H, Sub.refl, by rw [hnp]; rfl, ?_⟩
    rw [hio, if_neg Bool.false_ne_true]
    refine ⟨[.sls (ns.map D.int)], .cons (.sls hS (repNs ns)) .nil, ?_⟩
    rw [hev]
    intro v F' H' _ _ gv
    unfold Gives at gv
    split at gv
    · obtain ⟨_, _, _, _, c⟩ := gv
      cases c
    · cases gv
      rfl
  · have := RT.fn_ok (md base) n fn d fd [x] hT g
    rw [hfa] at this
    exact cxa this
end
end RT

namespace RT
theorem lookup_map {α β : Type} (f : α → β) : ∀ (l : List (Nat × α)) (i : Nat), (l.lookup i).map f = (l.map fun p => (p.1, f p.2)).lookup i
  | [], i => rfl
  | (k, a) :: r, i => by
    simp only [List.lookup, List.map_cons]
    split
    · rfl
    · exact lookup_map f r i
theorem G_eq : LawT.txt.TB = G := funext fun i => by
  show (LawT.txt.fns.lookup i).map (·.2.1) = Gt.lookup i
  rw [lookup_map]
  rfl
theorem GK_eq : LawT.txt.Kc = GK := funext fun i => by
  show (LawT.txt.glb.lookup i).map (·.2.d) = GKt.lookup i
  rw [lookup_map]
  rfl
end RT
set_option Elab.async false
set_option linter.all false
/-! Alg: words modulo a monic polynomial over a commutative ring; no program in sight. -/
namespace RT
open Lean.Grind (CommRing)
section
variable {K : Type} [CommRing K]
/-- a sum of n numbers -/
def sm : Nat → (Nat → K) → K
  | 0, _ => 0
  | n + 1, f => sm n f + f n
theorem sm_congr : ∀ {n : Nat} {f g : Nat → K}, (∀ i, i < n → f i = g i) → sm n f = sm n g
  | 0, _, _, _ => rfl
  | n + 1, f, g, h => by
    rw [sm, sm, sm_congr fun i hi => h i (by omega), h n (by omega)]
theorem sm_add : ∀ (n : Nat) (f g : Nat → K), sm n (fun i => f i + g i) = sm n f + sm n g
  | 0, f, g => by simp only [sm]; grind
  | n + 1, f, g => by simp only [sm]; rw [sm_add n]; grind
theorem sm_sub : ∀ (n : Nat) (f g : Nat → K), sm n (fun i => f i - g i) = sm n f - sm n g
  | 0, f, g => by simp only [sm]; grind
  | n + 1, f, g => by simp only [sm]; rw [sm_sub n]; grind
theorem sm_mul (c : K) : ∀ (n : Nat) (f : Nat → K), sm n (fun i => c * f i) = c * sm n f
  | 0, f => by simp only [sm]; grind
  | n + 1, f => by simp only [sm]; rw [sm_mul c n]; grind
theorem sm_mulr (c : K) (n : Nat) (f : Nat → K) : sm n (fun i => f i * c) = sm n f * c := by
  rw [show (fun i => f i * c) = fun i => c * f i from funext fun i => by grind, sm_mul]; grind
theorem sm_zero : ∀ (n : Nat), sm n (fun _ => (0 : K)) = 0
  | 0 => rfl
  | n + 1 => by simp only [sm]; rw [sm_zero n]; grind
theorem sm_zero' {n : Nat} {f : Nat → K} (h : ∀ i, i < n → f i = 0) : sm n f = 0 := by
  rw [sm_congr h, sm_zero]
theorem sm_comm (n m : Nat) (f : Nat → Nat → K) : sm n (fun i => sm m fun j => f i j) = sm m (fun j => sm n fun i => f i j) := by
  induction n with
  | zero => simp only [sm]; rw [sm_zero]
  | succ n ih => simp only [sm]; rw [ih, ← sm_add]
theorem sm_front : ∀ (n : Nat) (f : Nat → K), sm (n + 1) f = f 0 + sm n (fun i => f (i + 1))
  | 0, f => by simp only [sm]; grind
  | n + 1, f => by
    rw [sm, sm_front n, sm]; grind
theorem sm_one {n j : Nat} {f : Nat → K} (h : j < n) (z : ∀ i, i < n → i ≠ j → f i = 0) : sm n f = f j := by
  induction n with
  | zero => omega
  | succ n ih =>
    rw [sm]
    by_cases e : j = n
    · subst e
      rw [sm_zero' fun i hi => z i (by omega) (by omega)]; grind
    · rw [ih (by omega) fun i hi => z i (by omega), z n (by omega) (by omega)]; grind
theorem sm_more {n m : Nat} {f : Nat → K} (h : n ≤ m) (z : ∀ i, n ≤ i → i < m → f i = 0) : sm m f = sm n f := by
  induction m with
  | zero => obtain rfl : n = 0 := by omega
            rfl
  | succ m ih =>
    by_cases e : n = m + 1
    · subst e; rfl
    · rw [sm, ih (by omega) fun i a b => z i a (by omega), z m (by omega) (by omega)]; grind
/-! ### the step: times x, led down by a monic polynomial f (f m = 1, nothing above) -/
def stp (m : Nat) (f w : Nat → K) : Nat → K := fun n => (match n with
  | 0 => 0
  | n + 1 => w n) - w (m - 1) * f n
def itr (m : Nat) (f : Nat → K) : Nat → (Nat → K) → Nat → K
  | 0, w => w
  | i + 1, w => stp m f (itr m f i w)
def one0 : Nat → K := fun n => if n = 0 then 1 else 0
def Sup (m : Nat) (w : Nat → K) : Prop := ∀ n, m ≤ n → w n = 0
structure Mon (m : Nat) (f : Nat → K) : Prop where
  pos : 0 < m
  lead : f m = 1
  abv : ∀ n, m < n → f n = 0
variable {m : Nat} {f : Nat → K}
theorem stp_sup (hf : Mon m f) {w : Nat → K} (h : Sup m w) : Sup m (stp m f w) := fun n hn => by
  obtain ⟨k, rfl⟩ : ∃ k, n = k + 1 := ⟨n - 1, by have := hf.pos; omega⟩
  simp only [stp]
  by_cases e : m = k + 1
  · rw [← e, hf.lead]
    have : k = m - 1 := by omega
    rw [this]; grind
  · rw [h k (by omega), hf.abv _ (by omega)]; grind
theorem itr_sup (hf : Mon m f) {w : Nat → K} (h : Sup m w) : ∀ i, Sup m (itr m f i w)
  | 0 => h
  | i + 1 => stp_sup hf (itr_sup hf h i)
theorem stp_add (u v : Nat → K) : stp m f (fun n => u n + v n) = fun n => stp m f u n + stp m f v n := by
  funext n
  cases n <;> simp only [stp] <;> grind
theorem stp_smul (c : K) (u : Nat → K) : stp m f (fun n => c * u n) = fun n => c * stp m f u n := by
  funext n
  cases n <;> simp only [stp] <;> grind
theorem stp_zero : stp m f (fun _ => (0 : K)) = fun _ => 0 := by
  funext n
  cases n <;> simp only [stp] <;> grind
theorem itr_add : ∀ (i : Nat) (u v : Nat → K), itr m f i (fun n => u n + v n) = fun n => itr m f i u n + itr m f i v n
  | 0, u, v => rfl
  | i + 1, u, v => by simp only [itr]; rw [itr_add i, stp_add]
theorem itr_smul (c : K) : ∀ (i : Nat) (u : Nat → K), itr m f i (fun n => c * u n) = fun n => c * itr m f i u n
  | 0, u => rfl
  | i + 1, u => by simp only [itr]; rw [itr_smul c i, stp_smul]
theorem itr_zero : ∀ i, itr m f i (fun _ => (0 : K)) = fun _ => 0
  | 0 => rfl
  | i + 1 => by simp only [itr]; rw [itr_zero i, stp_zero]
theorem itr_itr : ∀ (i j : Nat) (u : Nat → K), itr m f i (itr m f j u) = itr m f (i + j) u
  | 0, j, u => by rw [Nat.zero_add]; rfl
  | i + 1, j, u => by rw [show i + 1 + j = (i + j) + 1 from by omega]; simp only [itr]; rw [itr_itr i]
theorem itr_sm (i : Nat) : ∀ (k : Nat) (v : Nat → Nat → K), itr m f i (fun n => sm k fun j => v j n) = fun n => sm k fun j => itr m f i (v j) n
  | 0, v => by simp only [sm]; exact itr_zero i
  | k + 1, v => by simp only [sm]; rw [itr_add i, itr_sm i k]
theorem itr_lin (i k : Nat) (c : Nat → K) (v : Nat → Nat → K) : itr m f i (fun n => sm k fun j => c j * v j n) = fun n => sm k fun j => c j * itr m f i (v j) n := by
  rw [itr_sm]
  funext n
  exact sm_congr fun j _ => by rw [itr_smul]
/-- the base words -/
def unit (j : Nat) : Nat → K := fun n => if n = j then 1 else 0
theorem itr_unit (hf : Mon m f) : ∀ j, j < m → itr m f j one0 = (unit j : Nat → K)
  | 0, _ => rfl
  | j + 1, h => by
    simp only [itr]
    rw [itr_unit hf j (by omega)]
    funext n
    have : (unit j : Nat → K) (m - 1) = 0 := by unfold unit; rw [if_neg (by omega)]
    cases n with
    | zero => simp only [stp, this]; unfold unit; rw [if_neg (by omega)]; grind
    | succ n => simp only [stp, this]; unfold unit; by_cases e : n = j
                · rw [if_pos e, if_pos (by omega)]; grind
                · rw [if_neg e, if_neg (by omega)]; grind
theorem basis (hf : Mon m f) {w : Nat → K} (h : Sup m w) : w = fun n => sm m fun j => w j * itr m f j one0 n := by
  funext n
  rw [sm_congr fun j hj => by rw [itr_unit hf j hj]]
  by_cases hn : n < m
  · rw [sm_one hn fun i hi e => by unfold unit; rw [if_neg (Ne.symm e)]; grind]
    unfold unit; rw [if_pos rfl]; grind
  · rw [h n (by omega), sm_zero' fun i hi => by unfold unit; rw [if_neg (by omega)]; grind]
/-! ### products -/
def mulw (m : Nat) (f a b : Nat → K) : Nat → K := fun n => sm m fun i => a i * itr m f i b n
theorem mulw_sup (hf : Mon m f) {a b : Nat → K} (h : Sup m b) : Sup m (mulw m f a b) := fun n hn => sm_zero' fun i _ => by
  rw [itr_sup hf h i n hn]; grind
theorem mulw_addl (a a' b : Nat → K) : mulw m f (fun n => a n + a' n) b = fun n => mulw m f a b n + mulw m f a' b n := by
  funext n
  unfold mulw
  rw [← sm_add]
  exact sm_congr fun i _ => by grind
theorem mulw_addr (a b b' : Nat → K) : mulw m f a (fun n => b n + b' n) = fun n => mulw m f a b n + mulw m f a b' n := by
  funext n
  unfold mulw
  rw [← sm_add]
  exact sm_congr fun i _ => by rw [itr_add]; grind
theorem mulw_smull (c : K) (a b : Nat → K) : mulw m f (fun n => c * a n) b = fun n => c * mulw m f a b n := by
  funext n
  unfold mulw
  rw [← sm_mul]
  exact sm_congr fun i _ => by grind
theorem mulw_swap (a b c : Nat → K) : mulw m f a (mulw m f b c) = mulw m f b (mulw m f a c) := by
  funext n
  have key : ∀ a b : Nat → K, mulw m f a (mulw m f b c) n = sm m fun i => sm m fun j => a i * b j * itr m f (i + j) c n := fun a b => by
    unfold mulw
    refine sm_congr fun i _ => ?_
    rw [itr_lin, ← sm_mul]
    exact sm_congr fun j _ => by rw [itr_itr]; grind
  rw [key, key, sm_comm]
  exact sm_congr fun j _ => sm_congr fun i _ => by rw [Nat.add_comm]; grind
theorem mulw_one (hf : Mon m f) {b : Nat → K} (h : Sup m b) : mulw m f b one0 = b := (basis hf h).symm
theorem mulw_comm (hf : Mon m f) {a b : Nat → K} (ha : Sup m a) (hb : Sup m b) : mulw m f a b = mulw m f b a := by
  have e1 := mulw_swap (m := m) (f := f) a b one0
  rw [mulw_one hf hb, mulw_one hf ha] at e1
  exact e1
theorem mulw_assoc (hf : Mon m f) {a b c : Nat → K} (ha : Sup m a) (hb : Sup m b) (hc : Sup m c) : mulw m f (mulw m f a b) c = mulw m f a (mulw m f b c) := by
  rw [mulw_comm hf (mulw_sup hf hb) hc, mulw_swap, mulw_comm hf hc hb]
/-- what a row of coefficients comes to -/
def led (m : Nat) (f : Nat → K) (n : Nat) (c : Nat → K) : Nat → K := fun k => sm n fun i => c i * itr m f i one0 k
theorem led_word (hf : Mon m f) {n : Nat} {c : Nat → K} (hn : m ≤ n) (h : Sup m c) : led m f n c = c := by
  rw [basis hf h]
  funext k
  unfold led
  rw [sm_more hn fun i a b => by rw [← basis hf h, h i a]; grind]
  exact sm_congr fun i _ => by rw [← basis hf h]
/-- f itself comes to nought, moved by any places -/
theorem led_mon (hf : Mon m f) (s : Nat) (k : Nat) : sm (m + 1) (fun i => f i * itr m f (s + i) one0 k) = 0 := by
  have e0 : (fun n => sm (m + 1) fun i => f i * itr m f i one0 n) = fun _ => (0 : K) := by
    funext n
    rw [sm, hf.lead]
    obtain ⟨p, rfl⟩ : ∃ p, m = p + 1 := ⟨m - 1, by have := hf.pos; omega⟩
    have e1 : itr (p + 1) f (p + 1) one0 n = (match n with | 0 => 0 | n + 1 => unit p n) - unit p p * f n := by
      rw [itr, itr_unit hf p (by omega)]; rfl
    rw [e1, show (unit p : Nat → K) p = 1 from if_pos rfl, sm_congr fun i hi => by rw [itr_unit hf i hi]]
    by_cases hn : n < p + 1
    · rw [sm_one hn fun i hi e => by unfold unit; rw [if_neg (Ne.symm e)]; grind]
      unfold unit
      cases n with
      | zero => simp only [if_true]; grind
      | succ n => simp only [if_true]; rw [if_neg (by omega)]; grind
    · rw [sm_zero' fun i hi => by unfold unit; rw [if_neg (by omega)]; grind]
      obtain ⟨n, rfl⟩ : ∃ k, n = k + 1 := ⟨n - 1, by omega⟩
      simp only []
      by_cases e : n = p
      · subst e
        unfold unit
        rw [if_pos rfl, hf.lead]; grind
      · unfold unit
        rw [if_neg e, hf.abv _ (by omega)]; grind
  have e2 : (fun n => sm (m + 1) fun i => f i * itr m f (s + i) one0 n) = itr m f s (fun n => sm (m + 1) fun i => f i * itr m f i one0 n) := by
    rw [itr_lin]
    funext n
    exact sm_congr fun i _ => by rw [itr_itr]
  have := congrFun e2 k
  rw [this, e0, itr_zero]
/-- taking out a multiple of f, moved, changes nothing -/
theorem led_out (hf : Mon m f) {n s : Nat} (hs : s + m < n) (x : K) (c : Nat → K) : led m f n (fun i => if s ≤ i ∧ i ≤ s + m then c i - x * f (i - s) else c i) = led m f n c := by
  funext k
  unfold led
  have e1 : ∀ i, (if s ≤ i ∧ i ≤ s + m then c i - x * f (i - s) else c i) * itr m f i one0 k = c i * itr m f i one0 k - x * (if s ≤ i ∧ i ≤ s + m then f (i - s) * itr m f i one0 k else 0) := fun i => by
    split <;> grind
  rw [sm_congr fun i _ => e1 i, sm_sub, sm_mul]
  have e2 : ∀ n, s + m < n → sm n (fun i => if s ≤ i ∧ i ≤ s + m then f (i - s) * itr m f i one0 k else 0) = sm (m + 1) fun i => f i * itr m f (s + i) one0 k := by
    intro n hn
    rw [sm_more (show s + (m + 1) ≤ n by omega) fun i a b => by rw [if_neg (by omega)]]
    clear hn e1
    have : ∀ t, t ≤ m + 1 → sm (s + t) (fun i => if s ≤ i ∧ i ≤ s + m then f (i - s) * itr m f i one0 k else 0) = sm t fun i => f i * itr m f (s + i) one0 k := by
      intro t
      induction t with
      | zero => intro _; rw [Nat.add_zero]; simp only [sm]; exact sm_zero' fun i hi => by rw [if_neg (by omega)]
      | succ t ih =>
        intro ht
        rw [show s + (t + 1) = (s + t) + 1 from by omega]
        simp only [sm]
        rw [ih (by omega), if_pos (by omega), show s + t - s = t from by omega]
    exact this (m + 1) (by omega)
  rw [e2 n hs, led_mon hf]; grind
/-- the product of coefficients, led down -/
theorem led_conv (hf : Mon m f) {a b : Nat → K} (ha : Sup m a) (hb : Sup m b) {n : Nat} {c : Nat → K} (hn : 2 * m ≤ n + 1) (hc : ∀ k, c k = sm (k + 1) fun i => a i * b (k - i)) : led m f n c = mulw m f a b := by
  funext k
  have e1 : mulw m f a b k = sm m fun i => sm m fun j => a i * b j * itr m f (i + j) one0 k := by
    unfold mulw
    refine sm_congr fun i _ => ?_
    conv => lhs; rw [basis hf hb]
    rw [itr_lin, ← sm_mul]
    exact sm_congr fun j _ => by rw [itr_itr]; grind
  rw [e1]
  unfold led
  have e2 : ∀ i, i < m → sm m (fun j => a i * b j * itr m f (i + j) one0 k) = sm n fun t => if i ≤ t then a i * b (t - i) * itr m f t one0 k else 0 := by
    intro i hi
    have : ∀ t, i + t ≤ n → sm (i + t) (fun t => if i ≤ t then a i * b (t - i) * itr m f t one0 k else 0) = sm t fun j => a i * b j * itr m f (i + j) one0 k := by
      intro t
      induction t with
      | zero => intro _; rw [Nat.add_zero]; simp only [sm]; exact sm_zero' fun j hj => by rw [if_neg (by omega)]
      | succ t ih =>
        intro ht
        rw [show i + (t + 1) = (i + t) + 1 from by omega]
        simp only [sm]
        rw [ih (by omega), if_pos (by omega), show i + t - i = t from by omega]
    rw [← this m (by omega)]
    rw [sm_more (show i + m ≤ n by omega) fun j x y => by rw [if_pos (by omega), hb (j - i) (by omega)]; grind]
  rw [sm_congr e2, sm_comm]
  refine sm_congr fun t _ => ?_
  rw [hc, ← sm_mulr]
  by_cases h : t + 1 ≤ m
  · rw [sm_more h fun i x y => by rw [if_neg (by omega)]]
    exact sm_congr fun i hi => by rw [if_pos (by omega)]
  · rw [sm_more (show m ≤ t + 1 by omega) fun i x y => by rw [ha i (by omega)]; grind]
    exact sm_congr fun i hi => by rw [if_pos (by omega)]
end
end RT

set_option Elab.async false
set_option linter.all false
/-! AlgL: words as lists. -/
namespace RT
open Lean.Grind (CommRing)
section
variable {K : Type} [CommRing K]
def fnl (l : List K) : Nat → K := fun i => l.getD i 0
theorem fnl_lt {l : List K} {i : Nat} (h : i < l.length) : fnl l i = l[i] := by
  unfold fnl; rw [List.getD_eq_getElem?_getD, List.getElem?_eq_getElem h]; rfl
theorem fnl_ge {l : List K} {i : Nat} (h : l.length ≤ i) : fnl l i = 0 := by
  unfold fnl; rw [List.getD_eq_getElem?_getD, List.getElem?_eq_none h]; rfl
theorem fnl_sup (l : List K) : Sup l.length (fnl l) := fun n h => fnl_ge h
theorem fnl_inj {a b : List K} (h : a.length = b.length) (e : fnl a = fnl b) : a = b := by
  refine List.ext_getElem h fun i h1 h2 => ?_
  rw [← fnl_lt h1, ← fnl_lt h2, e]
theorem fnl_cons0 (a : K) (l : List K) : fnl (a :: l) 0 = a := rfl
theorem fnl_conss (a : K) (l : List K) (n : Nat) : fnl (a :: l) (n + 1) = fnl l n := rfl
theorem fnl_zipWith {g : K → K → K} (hg : g 0 0 = 0) {a b : List K} (h : a.length = b.length) : fnl (List.zipWith g a b) = fun i => g (fnl a i) (fnl b i) := by
  funext i
  by_cases hi : i < a.length
  · rw [fnl_lt (by rw [List.length_zipWith]; omega), List.getElem_zipWith, fnl_lt hi, fnl_lt (by omega)]
  · rw [fnl_ge (by rw [List.length_zipWith]; omega), fnl_ge (show a.length ≤ i by omega), fnl_ge (show b.length ≤ i by omega), hg]
theorem fnl_map {g : K → K} (hg : g 0 = 0) (a : List K) : fnl (a.map g) = fun i => g (fnl a i) := by
  funext i
  by_cases hi : i < a.length
  · rw [fnl_lt (by rw [List.length_map]; omega), List.getElem_map, fnl_lt hi]
  · rw [fnl_ge (by rw [List.length_map]; omega), fnl_ge (show a.length ≤ i by omega), hg]
theorem fnl_repl (n : Nat) : fnl (List.replicate n (0 : K)) = fun _ => 0 := by
  funext i
  by_cases hi : i < n
  · rw [fnl_lt (by rw [List.length_replicate]; omega), List.getElem_replicate]
  · rw [fnl_ge (by rw [List.length_replicate]; omega)]
/-- the monic polynomial with these lower numbers -/
def monf (low : List K) : Nat → K := fun i => if i = low.length then 1 else fnl low i
theorem monf_mon {low : List K} (h : 0 < low.length) : Mon low.length (monf low) := ⟨h, by unfold monf; rw [if_pos rfl], fun n hn => by unfold monf; rw [if_neg (by omega), fnl_ge (by omega)]⟩
theorem monf_lt {low : List K} {i : Nat} (h : i < low.length) : monf low i = fnl low i := by unfold monf; rw [if_neg (by omega)]
/-- times x -/
def stpL (low w : List K) : List K := List.zipWith (fun s l => s - w.getLastD 0 * l) (0 :: w) low
theorem stpL_length {low w : List K} (h : w.length = low.length) : (stpL low w).length = low.length := by
  unfold stpL; rw [List.length_zipWith, List.length_cons]; omega
theorem lastD_fnl {w : List K} : w.getLastD 0 = fnl w (w.length - 1) := by
  cases w with
  | nil => rfl
  | cons a r =>
    rw [List.getLastD_eq_getLast?, List.getLast?_eq_getElem?]
    unfold fnl
    rw [List.getD_eq_getElem?_getD]
theorem fnl_stpL {low w : List K} (hp : 0 < low.length) (h : w.length = low.length) : fnl (stpL low w) = stp low.length (monf low) (fnl w) := by
  funext i
  by_cases hi : i < low.length
  · rw [fnl_lt (by rw [stpL_length h]; exact hi)]
    simp only [stpL, List.getElem_zipWith, lastD_fnl, h]
    cases i with
    | zero =>
      simp only [stp, List.getElem_cons_zero]
      rw [monf_lt hi, fnl_lt hi]
    | succ i =>
      simp only [stp, List.getElem_cons_succ]
      rw [monf_lt hi, fnl_lt hi, fnl_lt (show i < w.length by omega)]
  · rw [fnl_ge (by rw [stpL_length h]; omega)]
    have := stp_sup (monf_mon hp) (w := fnl w) (by rw [← h]; exact fnl_sup w) i (by omega)
    rw [this]
/-- coefficients led down -/
def addC (c : K) : List K → List K
  | [] => []
  | x :: r => (c + x) :: r
def ledL (low : List K) (c : List K) : List K := c.foldr (fun ci r => addC ci (stpL low r)) (List.replicate low.length 0)
theorem addC_length (c : K) (l : List K) : (addC c l).length = l.length := by cases l <;> rfl
theorem fnl_addC (c : K) {l : List K} (h : 0 < l.length) : fnl (addC c l) = fun i => c * one0 i + fnl l i := by
  cases l with
  | nil => simp at h
  | cons x r =>
    funext i
    cases i with
    | zero => simp only [addC, one0, if_true]; rw [fnl_cons0, fnl_cons0]; grind
    | succ i => simp only [addC, one0]; rw [fnl_conss, fnl_conss, if_neg (by omega)]; grind
@[simp] theorem ledL_length (low c : List K) : (ledL low c).length = low.length := by
  induction c with
  | nil => exact List.length_replicate
  | cons x r ih =>
    show (addC x (stpL low (ledL low r))).length = _
    rw [addC_length, stpL_length ih]
theorem fnl_ledL {low : List K} (hp : 0 < low.length) (c : List K) : fnl (ledL low c) = led low.length (monf low) c.length (fnl c) := by
  induction c with
  | nil => show fnl (List.replicate _ _) = _; rw [fnl_repl]; rfl
  | cons x r ih =>
    show fnl (addC x (stpL low (ledL low r))) = _
    rw [fnl_addC _ (by rw [stpL_length (ledL_length _ _)]; exact hp), fnl_stpL hp (ledL_length _ _), ih]
    funext k
    unfold led
    rw [List.length_cons, sm_front, fnl_cons0]
    have e := congrFun (itr_lin (m := low.length) (f := monf low) 1 r.length (fnl r) (fun i => itr low.length (monf low) i one0)) k
    simp only [itr] at e
    rw [e]
    congr 1
/-- products -/
def timesL (low a b : List K) : List K := a.foldr (fun x r => List.zipWith (fun y z => x * y + z) b (stpL low r)) (List.replicate low.length 0)
@[simp] theorem timesL_length {low b : List K} (a : List K) (h : b.length = low.length) : (timesL low a b).length = low.length := by
  induction a with
  | nil => exact List.length_replicate
  | cons x r ih =>
    show (List.zipWith _ b (stpL low (timesL low r b))).length = _
    rw [List.length_zipWith, stpL_length ih]; omega
theorem fnl_timesL' {low b : List K} (hp : 0 < low.length) (h : b.length = low.length) (a : List K) : fnl (timesL low a b) = fun k => sm a.length fun i => fnl a i * itr low.length (monf low) i (fnl b) k := by
  induction a with
  | nil => show fnl (List.replicate _ _) = _; rw [fnl_repl]; rfl
  | cons x r ih =>
    show fnl (List.zipWith _ b (stpL low (timesL low r b))) = _
    rw [fnl_zipWith (by grind) (by rw [stpL_length (timesL_length r h)]; exact h), fnl_stpL hp (timesL_length r h), ih]
    funext k
    rw [List.length_cons, sm_front, fnl_cons0]
    have e := congrFun (itr_lin (m := low.length) (f := monf low) 1 r.length (fnl r) (fun i => itr low.length (monf low) i (fnl b))) k
    simp only [itr] at e
    rw [e]
    congr 1
theorem fnl_timesL {low a b : List K} (hp : 0 < low.length) (ha : a.length = low.length) (h : b.length = low.length) : fnl (timesL low a b) = mulw low.length (monf low) (fnl a) (fnl b) := by
  rw [fnl_timesL' hp h, ha]; rfl
def plusL (a b : List K) : List K := List.zipWith (· + ·) a b
def minusL (a b : List K) : List K := List.zipWith (· - ·) a b
def scaleL (c : K) (a : List K) : List K := a.map (c * ·)
def oneL (m : Nat) : List K := 1 :: List.replicate (m - 1) 0
def zeroL (m : Nat) : List K := List.replicate m 0
@[simp] theorem plusL_length {a b : List K} (h : a.length = b.length) : (plusL a b).length = b.length := by unfold plusL; rw [List.length_zipWith]; omega
@[simp] theorem minusL_length {a b : List K} (h : a.length = b.length) : (minusL a b).length = b.length := by unfold minusL; rw [List.length_zipWith]; omega
theorem fnl_plusL {a b : List K} (h : a.length = b.length) : fnl (plusL a b) = fun i => fnl a i + fnl b i := fnl_zipWith (by grind) h
theorem fnl_minusL {a b : List K} (h : a.length = b.length) : fnl (minusL a b) = fun i => fnl a i - fnl b i := fnl_zipWith (by grind) h
theorem fnl_scaleL (c : K) (a : List K) : fnl (scaleL c a) = fun i => c * fnl a i := fnl_map (by grind) a
@[simp] theorem oneL_length {m : Nat} (h : 0 < m) : (oneL m : List K).length = m := by unfold oneL; rw [List.length_cons, List.length_replicate]; omega
theorem fnl_oneL (m : Nat) : fnl (oneL m : List K) = one0 := by
  funext i
  unfold oneL
  cases i with
  | zero => rfl
  | succ i => rw [fnl_conss, fnl_repl]; unfold one0; rw [if_neg (by omega)]
section laws
variable {low a b c : List K} (hp : 0 < low.length) (ha : a.length = low.length) (hb : b.length = low.length) (hc : c.length = low.length)
include ha hb
theorem plusL_comm : plusL a b = plusL b a := fnl_inj (by rw [plusL_length (by omega), plusL_length (by omega)]; omega) (by rw [fnl_plusL (by omega), fnl_plusL (by omega)]; funext i; grind)
theorem minus_plusL : plusL (minusL a b) b = a := fnl_inj (by rw [plusL_length (by rw [minusL_length (by omega)])]; omega) (by rw [fnl_plusL (by rw [minusL_length (by omega)]), fnl_minusL (by omega)]; funext i; grind)
include hp
theorem timesL_comm : timesL low a b = timesL low b a := fnl_inj (by rw [timesL_length a hb, timesL_length b ha]) (by
  rw [fnl_timesL hp ha hb, fnl_timesL hp hb ha]
  exact mulw_comm (monf_mon hp) (by rw [← ha]; exact fnl_sup a) (by rw [← hb]; exact fnl_sup b))
include hc
theorem timesL_assoc : timesL low (timesL low a b) c = timesL low a (timesL low b c) := fnl_inj (by rw [timesL_length _ hc, timesL_length _ (timesL_length _ hc)]) (by
  rw [fnl_timesL hp (timesL_length _ hb) hc, fnl_timesL hp ha hb, fnl_timesL hp ha (timesL_length _ hc), fnl_timesL hp hb hc]
  exact mulw_assoc (monf_mon hp) (by rw [← ha]; exact fnl_sup a) (by rw [← hb]; exact fnl_sup b) (by rw [← hc]; exact fnl_sup c))
theorem timesL_plusl : timesL low (plusL a b) c = plusL (timesL low a c) (timesL low b c) := by
  have h1 : (plusL a b).length = low.length := by rw [plusL_length (by omega)]; omega
  have h2 := timesL_length (low := low) a hc
  have h3 := timesL_length (low := low) b hc
  refine fnl_inj (by rw [timesL_length _ hc, plusL_length (by omega)]; omega) ?_
  rw [fnl_timesL hp h1 hc, fnl_plusL (by omega), mulw_addl, fnl_plusL (by omega), fnl_timesL hp ha hc, fnl_timesL hp hb hc]
end laws
theorem timesL_one {low a : List K} (hp : 0 < low.length) (ha : a.length = low.length) : timesL low a (oneL low.length) = a := fnl_inj (by rw [timesL_length _ (oneL_length hp)]; omega) (by
  rw [fnl_timesL hp ha (oneL_length hp), fnl_oneL, mulw_one (monf_mon hp) (by rw [← ha]; exact fnl_sup a)])
theorem timesL_scale {low a : List K} (hp : 0 < low.length) (ha : a.length = low.length) (x : K) : timesL low (x :: List.replicate (low.length - 1) 0) a = scaleL x a := by
  have h1 : (x :: List.replicate (low.length - 1) (0 : K)).length = low.length := by rw [List.length_cons, List.length_replicate]; omega
  refine fnl_inj (by rw [timesL_length _ ha]; unfold scaleL; rw [List.length_map]; omega) ?_
  rw [fnl_timesL hp h1 ha, fnl_scaleL]
  have e : fnl (x :: List.replicate (low.length - 1) (0 : K)) = fun i => x * one0 i := by
    funext i
    cases i with
    | zero => rw [fnl_cons0]; unfold one0; rw [if_pos rfl]; grind
    | succ i => rw [fnl_conss, fnl_repl]; unfold one0; rw [if_neg (by omega)]; grind
  rw [e, mulw_smull]
  have hs : Sup low.length (fnl a) := by rw [← ha]; exact fnl_sup a
  have ho : Sup low.length (one0 : Nat → K) := fun n hn => by unfold one0; rw [if_neg (by omega)]
  rw [mulw_comm (monf_mon hp) ho hs, mulw_one (monf_mon hp) hs]
theorem minusL_self (a : List K) : minusL a a = List.replicate a.length 0 := by
  refine fnl_inj (by rw [minusL_length rfl, List.length_replicate]) ?_
  rw [fnl_minusL rfl, fnl_repl]
  funext i; grind
end
end RT

set_option Elab.async false
set_option linter.all false
/-! AlgW: the ring of words. -/
namespace RT
open Lean.Grind (CommRing)
section
variable {K : Type} [CommRing K]
local instance : NatCast K := Lean.Grind.Semiring.natCast
local instance : IntCast K := Lean.Grind.Ring.intCast
structure Wd (low : List K) where
  l : List K
  h : l.length = low.length
theorem Wd.ext' {low : List K} {a b : Wd low} (h : a.l = b.l) : a = b := by
  cases a; cases b; cases h; rfl
theorem Wd.fext {low : List K} {a b : Wd low} (h : fnl a.l = fnl b.l) : a = b := Wd.ext' (fnl_inj (by rw [a.h, b.h]) h)
class LowOk (low : List K) : Prop where
  pos : 0 < low.length
instance {low : List K} [DecidableEq K] : DecidableEq (Wd low) := fun a b => decidable_of_iff (a.l = b.l) ⟨Wd.ext', fun h => by rw [h]⟩
def cstL (m : Nat) (x : K) : List K := x :: List.replicate (m - 1) 0
theorem fnl_cstL (m : Nat) (x : K) : fnl (cstL m x) = fun i => x * one0 i := by
  funext i
  unfold cstL
  cases i with
  | zero => rw [fnl_cons0]; unfold one0; rw [if_pos rfl]; grind
  | succ i => rw [fnl_conss, fnl_repl]; unfold one0; rw [if_neg (by omega)]; grind
section
variable {low : List K} [hp : LowOk low]
def Wd.zero : Wd low := ⟨zeroL low.length, List.length_replicate⟩
def Wd.cst (x : K) : Wd low := ⟨cstL low.length x, by unfold cstL; rw [List.length_cons, List.length_replicate]; have := hp.pos; omega⟩
def Wd.one : Wd low := ⟨oneL low.length, oneL_length hp.pos⟩
def Wd.neg (a : Wd low) : Wd low := ⟨a.l.map (fun x => -x), by rw [List.length_map, a.h]⟩
instance : Add (Wd low) := ⟨fun a b => ⟨plusL a.l b.l, by rw [plusL_length (by rw [a.h, b.h]), b.h]⟩⟩
instance : _root_.Sub (Wd low) := ⟨fun a b => ⟨minusL a.l b.l, by rw [minusL_length (by rw [a.h, b.h]), b.h]⟩⟩
instance : Mul (Wd low) := ⟨fun a b => ⟨timesL low a.l b.l, timesL_length _ b.h⟩⟩
instance : Neg (Wd low) := ⟨Wd.neg⟩
theorem Wd.f_add (a b : Wd low) : fnl (a + b).l = fun i => fnl a.l i + fnl b.l i := fnl_plusL (by rw [a.h, b.h])
theorem Wd.f_sub (a b : Wd low) : fnl (a - b).l = fun i => fnl a.l i - fnl b.l i := fnl_minusL (by rw [a.h, b.h])
theorem Wd.f_mul (a b : Wd low) : fnl (a * b).l = mulw low.length (monf low) (fnl a.l) (fnl b.l) := fnl_timesL hp.pos a.h b.h
theorem Wd.f_neg (a : Wd low) : fnl (-a).l = fun i => -fnl a.l i := fnl_map (by grind) a.l
theorem Wd.f_zero : fnl (Wd.zero : Wd low).l = fun _ => 0 := fnl_repl _
theorem Wd.f_one : fnl (Wd.one : Wd low).l = one0 := fnl_oneL _
theorem Wd.f_cst (x : K) : fnl (Wd.cst x : Wd low).l = fun i => x * one0 i := fnl_cstL _ x
theorem Wd.sup (a : Wd low) : Sup low.length (fnl a.l) := by rw [← a.h]; exact fnl_sup a.l
def Wd.pow (a : Wd low) : Nat → Wd low
  | 0 => Wd.one
  | n + 1 => Wd.pow a n * a
instance : HPow (Wd low) Nat (Wd low) := ⟨Wd.pow⟩
theorem Wd.cst_one : (Wd.cst 1 : Wd low) = Wd.one := Wd.fext (by rw [Wd.f_cst, Wd.f_one]; funext i; grind)
theorem Wd.mul_one' (a : Wd low) : a * Wd.one = a := Wd.fext (by rw [Wd.f_mul, Wd.f_one, mulw_one (monf_mon hp.pos) a.sup])
theorem Wd.mul_comm' (a b : Wd low) : a * b = b * a := Wd.ext' (timesL_comm hp.pos a.h b.h)
theorem Wd.mul_assoc' (a b c : Wd low) : a * b * c = a * (b * c) := Wd.ext' (timesL_assoc hp.pos a.h b.h c.h)
theorem Wd.add_mul' (a b c : Wd low) : (a + b) * c = a * c + b * c := Wd.ext' (timesL_plusl hp.pos a.h b.h c.h)
theorem Wd.zero_mul' (a : Wd low) : Wd.zero * a = Wd.zero := Wd.fext (by
  rw [Wd.f_mul, Wd.f_zero]
  funext i
  unfold mulw
  exact sm_zero' fun j _ => by grind)
theorem Wd.cst_mul (x : K) (a : Wd low) : fnl (Wd.cst x * a).l = fun i => x * fnl a.l i := by
  rw [Wd.f_mul, Wd.f_cst, mulw_smull]
  have ho : Sup low.length (one0 : Nat → K) := fun n hn => by unfold one0; rw [if_neg (by have := hp.pos; omega)]
  rw [mulw_comm (monf_mon hp.pos) ho a.sup, mulw_one (monf_mon hp.pos) a.sup]
instance : CommRing (Wd low) where
  natCast := ⟨fun n => Wd.cst (n : K)⟩
  ofNat n := ⟨Wd.cst (n : K)⟩
  nsmul := ⟨fun n a => Wd.cst (n : K) * a⟩
  npow := ⟨Wd.pow⟩
  intCast := ⟨fun n => Wd.cst (n : K)⟩
  zsmul := ⟨fun n a => Wd.cst (n : K) * a⟩
  add_zero a := Wd.fext (by rw [Wd.f_add]; funext i; show fnl a.l i + fnl (Wd.cst ((0 : Nat) : K)).l i = _; rw [Wd.f_cst, Lean.Grind.Semiring.natCast_zero]; grind)
  add_comm a b := Wd.fext (by rw [Wd.f_add, Wd.f_add]; funext i; grind)
  add_assoc a b c := Wd.fext (by rw [Wd.f_add, Wd.f_add, Wd.f_add, Wd.f_add]; funext i; grind)
  mul_assoc := Wd.mul_assoc'
  mul_one a := (by show a * Wd.cst ((1 : Nat) : K) = a; rw [Lean.Grind.Semiring.natCast_one, Wd.cst_one, Wd.mul_one'])
  one_mul a := (by rw [Wd.mul_comm']; show a * Wd.cst ((1 : Nat) : K) = a; rw [Lean.Grind.Semiring.natCast_one, Wd.cst_one, Wd.mul_one'])
  left_distrib a b c := (by rw [Wd.mul_comm', Wd.add_mul', Wd.mul_comm' b, Wd.mul_comm' c])
  right_distrib := Wd.add_mul'
  zero_mul a := Wd.fext (by show fnl (Wd.cst ((0 : Nat) : K) * a).l = fnl (Wd.cst ((0 : Nat) : K)).l; rw [Wd.cst_mul, Wd.f_cst, Lean.Grind.Semiring.natCast_zero]; funext i; grind)
  mul_zero a := (by rw [Wd.mul_comm']; exact Wd.fext (by show fnl (Wd.cst ((0 : Nat) : K) * a).l = fnl (Wd.cst ((0 : Nat) : K)).l; rw [Wd.cst_mul, Wd.f_cst, Lean.Grind.Semiring.natCast_zero]; funext i; grind))
  pow_zero a := (by show Wd.one = Wd.cst ((1 : Nat) : K); rw [Lean.Grind.Semiring.natCast_one, Wd.cst_one])
  pow_succ a n := rfl
  ofNat_succ n := Wd.fext (by
    show fnl (Wd.cst ((n + 1 : Nat) : K)).l = fnl (Wd.cst (n : K) + Wd.cst ((1 : Nat) : K)).l
    rw [Wd.f_add, Wd.f_cst, Wd.f_cst, Wd.f_cst, Lean.Grind.Semiring.natCast_succ, Lean.Grind.Semiring.natCast_one]; funext i; grind)
  neg_add_cancel a := Wd.fext (by rw [Wd.f_add, Wd.f_neg]; funext i; show _ = fnl (Wd.cst ((0 : Nat) : K)).l i; rw [Wd.f_cst, Lean.Grind.Semiring.natCast_zero]; grind)
  sub_eq_add_neg a b := Wd.fext (by rw [Wd.f_sub, Wd.f_add, Wd.f_neg]; funext i; grind)
  neg_zsmul i a := Wd.fext (by
    show fnl (Wd.cst ((-i : Int) : K) * a).l = fnl (-(Wd.cst (i : K) * a)).l
    rw [Wd.f_neg, Wd.cst_mul, Wd.cst_mul, Lean.Grind.Ring.intCast_neg]; funext k; grind)
  zsmul_natCast_eq_nsmul n a := (by
    show Wd.cst (((n : Int) : K)) * a = Wd.cst (n : K) * a
    rw [Lean.Grind.Ring.intCast_natCast])
  intCast_ofNat n := (by
    show Wd.cst (((OfNat.ofNat n : Int)) : K) = Wd.cst ((n : Nat) : K)
    rw [← Lean.Grind.Ring.intCast_natCast]; rfl)
  intCast_neg i := Wd.fext (by
    show fnl (Wd.cst ((-i : Int) : K)).l = fnl (-(Wd.cst (i : K))).l
    rw [Wd.f_neg, Wd.f_cst, Wd.f_cst, Lean.Grind.Ring.intCast_neg]; funext k; grind)
  mul_comm := Wd.mul_comm'
theorem Wd.one_eq : (1 : Wd low) = Wd.one := by
  show Wd.cst ((1 : Nat) : K) = _
  rw [Lean.Grind.Semiring.natCast_one, Wd.cst_one]
theorem Wd.zero_eq : (0 : Wd low) = Wd.zero := Wd.fext (by
  show fnl (Wd.cst ((0 : Nat) : K)).l = _
  rw [Wd.f_cst, Wd.f_zero, Lean.Grind.Semiring.natCast_zero]; funext i; grind)
end
end
/-! powers in any commutative ring -/
section
variable {R : Type} [CommRing R]
theorem pow_add' (a : R) (m : Nat) : ∀ n : Nat, a ^ (m + n) = a ^ m * a ^ n
  | 0 => by rw [Nat.add_zero, Lean.Grind.Semiring.pow_zero]; grind
  | n + 1 => by rw [← Nat.add_assoc, Lean.Grind.Semiring.pow_succ, pow_add' a m n, Lean.Grind.Semiring.pow_succ]; grind
theorem pow_mul' (a : R) (m : Nat) : ∀ n : Nat, a ^ (m * n) = (a ^ m) ^ n
  | 0 => by rw [Nat.mul_zero, Lean.Grind.Semiring.pow_zero, Lean.Grind.Semiring.pow_zero]
  | n + 1 => by rw [Nat.mul_succ, pow_add', pow_mul' a m n, Lean.Grind.Semiring.pow_succ]
theorem mul_pow' (a b : R) : ∀ n : Nat, (a * b) ^ n = a ^ n * b ^ n
  | 0 => by rw [Lean.Grind.Semiring.pow_zero, Lean.Grind.Semiring.pow_zero, Lean.Grind.Semiring.pow_zero]; grind
  | n + 1 => by rw [Lean.Grind.Semiring.pow_succ, mul_pow' a b n, Lean.Grind.Semiring.pow_succ, Lean.Grind.Semiring.pow_succ]; grind
theorem one_pow' : ∀ n : Nat, (1 : R) ^ n = 1
  | 0 => by rw [Lean.Grind.Semiring.pow_zero]
  | n + 1 => by rw [Lean.Grind.Semiring.pow_succ, one_pow' n]; grind
theorem zero_pow'' {n : Nat} (h : 0 < n) : (0 : R) ^ n = (0 : R) := by
  obtain ⟨k, rfl⟩ : ∃ k, n = k + 1 := ⟨n - 1, by omega⟩
  rw [Lean.Grind.Semiring.pow_succ]; grind
/-- halving an exponent -/
theorem pow_half (f a : R) (n : Nat) : f * a ^ n = (if n % 2 = 1 then f * a else f) * (a * a) ^ (n / 2) := by
  have e : a ^ n = a ^ (n % 2) * (a * a) ^ (n / 2) := by
    have : (a * a) ^ (n / 2) = a ^ (2 * (n / 2)) := by
      rw [pow_mul']
      congr 1
      rw [show (2 : Nat) = 1 + 1 from rfl, pow_add', show (1 : Nat) = 0 + 1 from rfl, Lean.Grind.Semiring.pow_succ, Lean.Grind.Semiring.pow_zero]; grind
    rw [this, ← pow_add', Nat.mod_add_div]
  rw [e]
  by_cases h : n % 2 = 1
  · rw [if_pos h, h, show (1 : Nat) = 0 + 1 from rfl, Lean.Grind.Semiring.pow_succ, Lean.Grind.Semiring.pow_zero]; grind
  · rw [if_neg h, show n % 2 = 0 from by omega, Lean.Grind.Semiring.pow_zero]; grind
end
end RT

set_option Elab.async false
set_option linter.all false
/-! AlgN: numbers of words; the inverse by trial. -/
namespace RT
section
variable {q : Nat} [NeZero q]
/-- the digits of a number, the lowest first -/
def digL (q : Nat) [NeZero q] : Nat → Nat → List (Fin q)
  | _, 0 => []
  | x, k + 1 => Fin.ofNat q x :: digL q (x / q) k
@[simp] theorem digL_length : ∀ (x k : Nat), (digL q x k).length = k
  | _, 0 => rfl
  | x, k + 1 => by rw [digL, List.length_cons, digL_length]
theorem digL_snoc : ∀ (k x : Nat), digL q x (k + 1) = digL q x k ++ [Fin.ofNat q (x / q ^ k)]
  | 0, x => by simp [digL]
  | k + 1, x => by
    rw [digL, digL_snoc k, digL, List.cons_append, Nat.pow_succ, Nat.div_div_eq_div_mul, Nat.mul_comm q]
/-- the number of digits -/
def numL : List (Fin q) → Nat
  | [] => 0
  | a :: r => a.val + q * numL r
theorem numL_lt : ∀ w : List (Fin q), numL w < q ^ w.length
  | [] => by simp [numL]
  | a :: r => by
    have h1 := numL_lt r
    have h2 := a.isLt
    rw [numL, List.length_cons, Nat.pow_succ, Nat.mul_comm]
    have : q * (numL r + 1) ≤ q * q ^ r.length := Nat.mul_le_mul_left q h1
    rw [Nat.mul_add, Nat.mul_one] at this
    rw [Nat.mul_comm (q ^ r.length)]
    rw [Nat.mul_comm (numL r)] at *
    omega
theorem digL_numL : ∀ w : List (Fin q), digL q (numL w) w.length = w
  | [] => rfl
  | a :: r => by
    have h0 : 0 < q := Nat.pos_of_neZero q
    rw [List.length_cons, digL, numL]
    have h2 := a.isLt
    congr 1
    · apply Fin.ext
      show (a.val + q * numL r) % q = a.val
      rw [Nat.add_mul_mod_self_left, Nat.mod_eq_of_lt h2]
    · rw [Nat.add_mul_div_left _ _ h0, Nat.div_eq_of_lt h2, Nat.zero_add, digL_numL r]
theorem numL_digL : ∀ (k x : Nat), x < q ^ k → numL (digL q x k) = x
  | 0, x, h => by simp at h; rw [h]; rfl
  | k + 1, x, h => by
    have h0 : 0 < q := Nat.pos_of_neZero q
    rw [digL, numL, numL_digL k (x / q) (Nat.div_lt_of_lt_mul (by rw [Nat.mul_comm]; rwa [Nat.pow_succ] at h))]
    show x % q + q * (x / q) = x
    exact Nat.mod_add_div x q
/-- all words of a field -/
def allWd (low : List (Fin q)) : List (Wd low) := (List.range (q ^ low.length)).map fun x => ⟨digL q x low.length, digL_length _ _⟩
theorem mem_allWd {low : List (Fin q)} (w : Wd low) : w ∈ allWd low := by
  unfold allWd
  refine List.mem_map.mpr ⟨numL w.l, List.mem_range.mpr ?_, ?_⟩
  · rw [← w.h]; exact numL_lt w.l
  · apply Wd.ext'
    show digL q (numL w.l) low.length = w.l
    conv => lhs; rw [← w.h]
    exact digL_numL w.l
/-- inverses, as they are found by trial -/
theorem find_inv {low : List (Fin q)} [LowOk low] {a b : Wd low} (h : a * b = 1) : (allWd low).find? (fun v => decide (a * v = 1)) = some b := by
  have hs : ((allWd low).find? (fun v => decide (a * v = 1))).isSome := by
    rw [List.find?_isSome]
    exact ⟨b, mem_allWd b, by simpa using h⟩
  obtain ⟨c, hc⟩ := Option.isSome_iff_exists.mp hs
  rw [hc]
  have h2 := List.find?_some hc
  have h2 : a * c = 1 := by simpa using h2
  congr 1
  have : c = c * (a * b) := by rw [h]; grind
  rw [this, show c * (a * b) = (a * c) * b from by grind, h2]; grind
/-- a field's words: each but nought has an inverse -/
def InvOk (low : List (Fin q)) [LowOk low] : Prop := ∀ a : Wd low, a ≠ 0 → a * a ^ (q ^ low.length - 2) = 1
/-- by trial -/
def powB (low : List (Fin q)) [LowOk low] : Nat → Nat → Wd low → Wd low → Wd low
  | 0, _, f, _ => f
  | b + 1, n, f, a => powB low b (n / 2) (if n % 2 = 1 then f * a else f) (a * a)
theorem powB_eq {low : List (Fin q)} [LowOk low] : ∀ (b n : Nat) (f a : Wd low), n < 2 ^ b → powB low b n f a = f * a ^ n
  | 0, n, f, a, h => by
    have : n = 0 := by simpa using h
    subst this
    rw [powB, Lean.Grind.Semiring.pow_zero]; grind
  | b + 1, n, f, a, h => by
    rw [powB, powB_eq b _ _ _ (by rw [Nat.pow_succ] at h; omega), ← pow_half]
def invB (low : List (Fin q)) [LowOk low] : Bool := (allWd low).all fun a => decide (a = 0) || decide (powB low 30 (q ^ low.length - 2) a a = 1)
theorem invB_ok {low : List (Fin q)} [LowOk low] (hb : q ^ low.length - 2 < 2 ^ 30) (h : invB low = true) : InvOk low := fun a ha => by
  have := List.all_eq_true.mp h a (mem_allWd a)
  simp only [Bool.or_eq_true, decide_eq_true_eq] at this
  rcases this with h | h
  · exact (ha h).elim
  · rw [powB_eq _ _ _ _ hb] at h
    exact h
end
end RT

set_option Elab.async false
set_option linter.all false
/-! AlgV: sums of rows; nets; what links carry. -/
namespace RT
open Lean.Grind (CommRing)
section
variable {K : Type} [CommRing K]
theorem plusL_ass : ∀ a b c : List K, plusL (plusL a b) c = plusL a (plusL b c)
  | [], b, c => by cases b <;> cases c <;> rfl
  | x :: a, [], c => by cases c <;> rfl
  | x :: a, y :: b, [] => rfl
  | x :: a, y :: b, z :: c => by
    have := plusL_ass a b c
    unfold plusL at this ⊢
    simp only [List.zipWith_cons_cons, this]
    congr 1; grind
theorem plusL_com : ∀ a b : List K, plusL a b = plusL b a
  | [], b => by cases b <;> rfl
  | x :: a, [] => rfl
  | x :: a, y :: b => by
    have := plusL_com a b
    unfold plusL at this ⊢
    simp only [List.zipWith_cons_cons, this]
    congr 1; grind
theorem plusL_lcom (a b c : List K) : plusL a (plusL b c) = plusL b (plusL a c) := by
  rw [← plusL_ass, plusL_com a b, plusL_ass]
theorem plusL_zero : ∀ a : List K, plusL a (zeroL a.length) = a
  | [] => rfl
  | x :: a => by
    have := plusL_zero a
    unfold plusL zeroL at this ⊢
    simp only [List.length_cons, List.replicate_succ, List.zipWith_cons_cons, this]
    congr 1; grind
theorem plusL_zero' {a : List K} {n : Nat} (h : a.length = n) : plusL a (zeroL n) = a := by subst h; exact plusL_zero a
theorem zero_plusL {a : List K} {n : Nat} (h : a.length = n) : plusL (zeroL n) a = a := by rw [plusL_com]; exact plusL_zero' h
theorem zeroL_len (n : Nat) : (zeroL n : List K).length = n := List.length_replicate
theorem scaleL_len (c : K) (a : List K) : (scaleL c a).length = a.length := List.length_map _
theorem scaleL_add (x y : K) : ∀ a : List K, scaleL (x + y) a = plusL (scaleL x a) (scaleL y a)
  | [] => rfl
  | z :: a => by
    have := scaleL_add x y a
    unfold plusL scaleL at this ⊢
    simp only [List.map_cons, List.zipWith_cons_cons, this]
    congr 1; grind
theorem scaleL_plus (x : K) : ∀ a b : List K, scaleL x (plusL a b) = plusL (scaleL x a) (scaleL x b)
  | [], b => by cases b <;> rfl
  | z :: a, [] => rfl
  | z :: a, y :: b => by
    have := scaleL_plus x a b
    unfold plusL scaleL at this ⊢
    simp only [List.map_cons, List.zipWith_cons_cons, this]
    congr 1; grind
theorem scaleL_scale (x y : K) (a : List K) : scaleL x (scaleL y a) = scaleL (x * y) a := by
  unfold scaleL
  rw [List.map_map]
  refine List.map_congr_left fun z _ => ?_
  show x * (y * z) = x * y * z
  grind
theorem scaleL_nil (a : List K) : scaleL 0 a = zeroL a.length := by
  unfold scaleL zeroL
  rw [List.map_eq_replicate_iff]
  intro b _; grind
theorem scaleL_zero (x : K) (n : Nat) : scaleL x (zeroL n) = zeroL n := by
  unfold scaleL zeroL
  rw [List.map_replicate]
  congr 1; grind
/-- the sum of rows, each times its number -/
def lin (n : Nat) : List K → List (List K) → List K
  | c :: cs, r :: rs => plusL (scaleL c r) (lin n cs rs)
  | _, _ => zeroL n
@[simp] theorem lin_nil (n : Nat) (A : List (List K)) : lin n [] A = zeroL n := rfl
@[simp] theorem lin_nil' (n : Nat) (c : List K) : lin n c [] = zeroL n := by cases c <;> rfl
@[simp] theorem lin_cons (n : Nat) (c : K) (cs : List K) (r : List K) (A : List (List K)) : lin n (c :: cs) (r :: A) = plusL (scaleL c r) (lin n cs A) := rfl
theorem lin_length {n : Nat} : ∀ (c : List K) (A : List (List K)), (∀ r ∈ A, r.length = n) → (lin n c A).length = n
  | [], A, _ => zeroL_len n
  | c :: cs, [], _ => zeroL_len n
  | c :: cs, r :: A, h => by
    have h1 := h r List.mem_cons_self
    have h2 := lin_length cs A fun r hr => h r (List.mem_cons_of_mem _ hr)
    rw [lin_cons, plusL_length (by rw [scaleL_len]; omega)]; exact h2
theorem lin_plus {n : Nat} : ∀ (u v : List K) (W : List (List K)), u.length = v.length → (∀ r ∈ W, r.length = n) → lin n (plusL u v) W = plusL (lin n u W) (lin n v W)
  | [], [], W, _, _ => by
    show lin n [] W = _
    rw [lin_nil, plusL_zero' (zeroL_len n)]
  | x :: u, y :: v, [], _, _ => by rw [lin_nil', lin_nil', lin_nil', plusL_zero' (zeroL_len n)]
  | x :: u, y :: v, w :: W, h, g => by
    have ih := lin_plus u v W (by simpa using h) fun r hr => g r (List.mem_cons_of_mem _ hr)
    show plusL (scaleL (x + y) w) (lin n (plusL u v) W) = _
    rw [ih, scaleL_add, lin_cons, lin_cons, plusL_ass, plusL_ass]
    congr 1
    rw [plusL_lcom]
theorem lin_scale {n : Nat} (c : K) : ∀ (u : List K) (W : List (List K)), lin n (scaleL c u) W = scaleL c (lin n u W)
  | [], W => by show zeroL n = _; rw [lin_nil, scaleL_zero]
  | x :: u, [] => by rw [lin_nil', lin_nil', scaleL_zero]
  | x :: u, w :: W => by
    show plusL (scaleL (c * x) w) (lin n (scaleL c u) W) = _
    rw [lin_scale c u W, lin_cons, scaleL_plus, scaleL_scale]
theorem lin_zero {n : Nat} (m : Nat) (W : List (List K)) (g : ∀ r ∈ W, r.length = n) : lin n (zeroL m) W = zeroL n := by
  induction m generalizing W with
  | zero => rfl
  | succ m ih =>
    cases W with
    | nil => rw [lin_nil']
    | cons w W =>
      show plusL (scaleL 0 w) (lin n (zeroL m) W) = _
      rw [ih W fun r hr => g r (List.mem_cons_of_mem _ hr), scaleL_nil, g w List.mem_cons_self, plusL_zero' (zeroL_len n)]
theorem lin_lin {m n : Nat} {W : List (List K)} (g : ∀ r ∈ W, r.length = m) : ∀ (c : List K) (A : List (List K)), (∀ r ∈ A, r.length = n) → lin m (lin n c A) W = lin m c (A.map fun a => lin m a W)
  | [], A, _ => by rw [lin_nil, lin_nil, lin_zero _ _ g]
  | c :: cs, [], _ => by rw [lin_nil', List.map_nil, lin_nil', lin_zero _ _ g]
  | c :: cs, a :: A, h => by
    have h1 := h a List.mem_cons_self
    have h2 := lin_length cs A fun r hr => h r (List.mem_cons_of_mem _ hr)
    rw [lin_cons, List.map_cons, lin_cons, lin_plus _ _ _ (by rw [scaleL_len]; omega) g, lin_scale, lin_lin g cs A fun r hr => h r (List.mem_cons_of_mem _ hr)]
/-- from the left -/
theorem lin_foldl {n : Nat} : ∀ (c : List K) (A : List (List K)) (a : List K), a.length = n → (∀ r ∈ A, r.length = n) → (c.zip A).foldl (fun a p => plusL a (scaleL p.1 p.2)) a = plusL a (lin n c A)
  | [], A, a, h, _ => by rw [lin_nil, plusL_zero' h]; rfl
  | c :: cs, [], a, h, _ => by rw [lin_nil', plusL_zero' h]; rfl
  | c :: cs, r :: A, a, h, g => by
    have h1 := g r List.mem_cons_self
    rw [List.zip_cons_cons, List.foldl_cons, lin_foldl cs A _ (by rw [plusL_length (by rw [scaleL_len]; exact h.trans h1.symm), scaleL_len]; exact h1) fun r hr => g r (List.mem_cons_of_mem _ hr), lin_cons, plusL_ass]
theorem lin_foldl0 {n : Nat} (c : List K) (A : List (List K)) (g : ∀ r ∈ A, r.length = n) : (c.zip A).foldl (fun a p => plusL a (scaleL p.1 p.2)) (zeroL n) = lin n c A := by
  rw [lin_foldl c A _ (zeroL_len n) g, zero_plusL (lin_length c A g)]
end
/-! ### nets -/
abbrev Lk := Nat × Nat
abbrev keyP (l : Lk) : List Int := [(l.1 : Int), (l.2 : Int)]
abbrev ltP (a b : Lk) : Bool := lexL (keyP a) (keyP b)
theorem ltP_eq (a b : Lk) : ltP a b = (if a.1 = b.1 then decide (a.2 < b.2) else decide (a.1 < b.1)) := by
  unfold ltP keyP
  simp only [lexL]
  by_cases h : a.1 = b.1
  · rw [if_pos (by omega), if_pos h]
    by_cases g : a.2 = b.2
    · rw [if_pos (by omega), decide_eq_false (by omega)]
    · rw [if_neg (by omega)]
      congr 1; exact propext ⟨fun h => by omega, fun h => by omega⟩
  · rw [if_neg (by omega), if_neg h]
    congr 1; exact propext ⟨fun h => by omega, fun h => by omega⟩
theorem ltP_asym (a b : Lk) : ltP a b = true → ltP b a = false := lexL_asym _ _
theorem ltP_neg (a b c : Lk) : ltP a b = false → ltP b c = false → ltP a c = false := lexL_neg _ _ _
/-- points, and links that ascend -/
structure Nt where
  p : Nat
  l : List Lk
  p2 : 2 ≤ p
  p10 : p ≤ 10
  l20 : l.length ≤ 20
  ok : ∀ x ∈ l, x.1 < x.2 ∧ x.2 < p
  sd : Sd ltP l
/-- the links into a point -/
def into (ls : List Lk) (p : Nat) : List Nat := (ls.zipIdx.filter fun x => decide (x.1.2 = p)).map (·.2)
def outof (ls : List Lk) (p : Nat) : List Nat := (ls.zipIdx.filter fun x => decide (x.1.1 = p)).map (·.2)
theorem mem_into {ls : List Lk} {p i : Nat} : i ∈ into ls p ↔ ∃ l, ls[i]? = some l ∧ l.2 = p := by
  unfold into
  rw [List.mem_map]
  constructor
  · rintro ⟨⟨l, j⟩, h, rfl⟩
    obtain ⟨h1, h2⟩ := List.mem_filter.mp h
    exact ⟨l, by have := List.mk_mem_zipIdx_iff_getElem?.mp h1; exact this, of_decide_eq_true h2⟩
  · rintro ⟨l, h1, h2⟩
    exact ⟨(l, i), List.mem_filter.mpr ⟨List.mk_mem_zipIdx_iff_getElem?.mpr h1, decide_eq_true h2⟩, rfl⟩
theorem into_lt {ls : List Lk} {p i : Nat} (h : i ∈ into ls p) : i < ls.length := by
  obtain ⟨l, h1, _⟩ := mem_into.mp h
  exact (List.getElem?_eq_some_iff.mp h1).1
theorem into_len (ls : List Lk) (p : Nat) : (into ls p).length ≤ ls.length := by
  unfold into
  rw [List.length_map]
  exact Nat.le_trans (List.length_filter_le _ _) (by rw [List.length_zipIdx]; exact Nat.le_refl _)
theorem Nt.mono (N : Nt) {i j : Nat} {a b : Lk} (ha : N.l[i]? = some a) (hb : N.l[j]? = some b) (h : i ≤ j) : a.1 ≤ b.1 := by
  obtain ⟨h1, h2⟩ := List.getElem?_eq_some_iff.mp ha
  obtain ⟨h3, h4⟩ := List.getElem?_eq_some_iff.mp hb
  rcases Nat.lt_or_eq_of_le h with h | h
  · have := List.pairwise_iff_getElem.mp N.sd i j h1 h3 h
    rw [h2, h4, ltP_eq] at this
    split at this
    · omega
    · have := of_decide_eq_false this
      omega
  · subst h
    rw [h2] at h4; subst h4; omega
/-- what comes into the tail of a link stands ahead of it -/
theorem Nt.ahead (N : Nt) {i j : Nat} {l : Lk} (hl : N.l[j]? = some l) (h : i ∈ into N.l l.1) : i < j := by
  obtain ⟨a, h1, h2⟩ := mem_into.mp h
  refine Nat.lt_of_not_le fun hle => ?_
  have := N.mono hl h1 hle
  have := (N.ok a (List.mem_of_getElem? h1)).1
  omega
section
variable {K : Type} [CommRing K]
def stepV (n : Nat) (ls : List Lk) (src : List K → List K) (acc : List (List K)) (x : Lk × List K) : List K :=
  if x.1.1 = 0 then src x.2 else lin n x.2 ((into ls x.1.1).map fun i => acc.getD i (zeroL n))
def runV (n : Nat) (ls : List Lk) (src : List K → List K) (its : List (Lk × List K)) : List (List K) :=
  its.foldl (fun acc x => acc ++ [stepV n ls src acc x]) []
theorem runV_nil (n : Nat) (ls : List Lk) (src : List K → List K) : runV n ls src [] = [] := rfl
theorem runV_snoc (n : Nat) (ls : List Lk) (src : List K → List K) (its : List (Lk × List K)) (x : Lk × List K) : runV n ls src (its ++ [x]) = runV n ls src its ++ [stepV n ls src (runV n ls src its) x] := by
  unfold runV
  rw [List.foldl_append]; rfl
theorem snoc_ind {α : Type} {P : List α → Prop} (h0 : P []) (hs : ∀ l x, P l → P (l ++ [x])) (l : List α) : P l := by
  rw [← List.reverse_reverse l]
  induction l.reverse with
  | nil => exact h0
  | cons x r ih => rw [List.reverse_cons]; exact hs _ _ ih
@[simp] theorem runV_length (n : Nat) (ls : List Lk) (src : List K → List K) (its : List (Lk × List K)) : (runV n ls src its).length = its.length := by
  induction its using snoc_ind with
  | h0 => rfl
  | hs l x ih => rw [runV_snoc, List.length_append, ih, List.length_append]; rfl
theorem runV_pre (n : Nat) (ls : List Lk) (src : List K → List K) (l r : List (Lk × List K)) : ∃ t, runV n ls src (l ++ r) = runV n ls src l ++ t := by
  induction r using snoc_ind with
  | h0 => exact ⟨[], by rw [List.append_nil, List.append_nil]⟩
  | hs r x ih =>
    obtain ⟨t, ht⟩ := ih
    exact ⟨t ++ [stepV n ls src (runV n ls src (l ++ r)) x], by rw [← List.append_assoc, runV_snoc, ht, List.append_assoc]⟩
theorem stepV_len {n : Nat} {ls : List Lk} {src : List K → List K} {acc : List (List K)} {x : Lk × List K} (hs : x.1.1 = 0 → (src x.2).length = n) (ha : ∀ r ∈ acc, r.length = n) : (stepV n ls src acc x).length = n := by
  unfold stepV
  split
  · exact hs (by assumption)
  · refine lin_length _ _ fun r hr => ?_
    obtain ⟨i, _, rfl⟩ := List.mem_map.mp hr
    rw [List.getD_eq_getElem?_getD]
    cases h : acc[i]? with
    | none => exact zeroL_len n
    | some a => exact ha a (List.mem_of_getElem? h)
theorem runV_len {n : Nat} {ls : List Lk} {src : List K → List K} {its : List (Lk × List K)} (hs : ∀ x ∈ its, x.1.1 = 0 → (src x.2).length = n) : ∀ r ∈ runV n ls src its, r.length = n := by
  induction its using snoc_ind with
  | h0 => intro r hr; cases hr
  | hs l x ih =>
    have ih := ih fun y hy => hs y (List.mem_append_left _ hy)
    intro r hr
    rw [runV_snoc] at hr
    rcases List.mem_append.mp hr with hr | hr
    · exact ih r hr
    · rw [List.mem_singleton.mp hr]
      exact stepV_len (hs x (List.mem_append_right _ List.mem_cons_self)) ih
/-- a change of what is sent by a sum of rows -/
theorem runV_map {n m : Nat} {ls : List Lk} {src src' : List K → List K} {W : List (List K)} (g : ∀ r ∈ W, r.length = m) {its : List (Lk × List K)} (hs : ∀ x ∈ its, x.1.1 = 0 → (src x.2).length = n) (hw : ∀ x ∈ its, x.1.1 = 0 → src' x.2 = lin m (src x.2) W) :
    runV m ls src' its = (runV n ls src its).map fun v => lin m v W := by
  induction its using snoc_ind with
  | h0 => rfl
  | hs l x ih =>
    have ih := ih (fun y hy => hs y (List.mem_append_left _ hy)) (fun y hy => hw y (List.mem_append_left _ hy))
    have hl := runV_len (n := n) (ls := ls) (src := src) fun y (hy : y ∈ l) => hs y (List.mem_append_left _ hy)
    rw [runV_snoc, runV_snoc, ih, List.map_append, List.map_singleton]
    congr 2
    unfold stepV
    split
    · exact hw x (List.mem_append_right _ List.mem_cons_self) (by assumption)
    · rw [lin_lin g _ _ fun r hr => ?_]
      · rw [List.map_map]
        congr 1
        refine List.map_congr_left fun i _ => ?_
        simp only [Function.comp]
        rw [List.getD_eq_getElem?_getD, List.getD_eq_getElem?_getD, List.getElem?_map]
        cases h : (runV n ls src l)[i]? with
        | none => show zeroL m = lin m (zeroL n) W; rw [lin_zero _ _ g]
        | some a => rfl
      · obtain ⟨i, _, rfl⟩ := List.mem_map.mp hr
        rw [List.getD_eq_getElem?_getD]
        cases h : (runV n ls src l)[i]? with
        | none => exact zeroL_len n
        | some a => exact hl a (List.mem_of_getElem? h)
/-- the whole run says what a link carries, by what comes into its tail -/
theorem runV_at {n : Nat} {N : Nt} {src : List K → List K} {code : List (List K)} (hc : code.length = N.l.length) {i : Nat} {l : Lk} {ns : List K} (hl : N.l[i]? = some l) (hn : code[i]? = some ns) :
    (runV n N.l src (N.l.zip code))[i]? = some (stepV n N.l src (runV n N.l src (N.l.zip code)) (l, ns)) := by
  obtain ⟨hi, _⟩ := List.getElem?_eq_some_iff.mp hl
  have hz : (N.l.zip code)[i]? = some (l, ns) := by rw [List.getElem?_zip_eq_some]; exact ⟨hl, hn⟩
  have hi' : i < (N.l.zip code).length := (List.getElem?_eq_some_iff.mp hz).1
  have e : N.l.zip code = (N.l.zip code).take i ++ (l, ns) :: (N.l.zip code).drop (i + 1) := by
    have := List.drop_eq_getElem_cons hi'
    rw [(List.getElem?_eq_some_iff.mp hz).2] at this
    rw [← this, List.take_append_drop]
  generalize hA : (N.l.zip code).take i = A at e
  generalize hB : (N.l.zip code).drop (i + 1) = B at e
  have hAl : A.length = i := by rw [← hA, List.length_take]; omega
  obtain ⟨t, ht⟩ := runV_pre n N.l src (A ++ [(l, ns)]) B
  rw [List.append_assoc, List.singleton_append, ← e, runV_snoc] at ht
  rw [ht, List.getElem?_append_left (by simp; omega), List.getElem?_append_right (by simp; omega)]
  rw [runV_length, hAl, Nat.sub_self]
  show some _ = some _
  congr 1
  unfold stepV
  split
  · rfl
  · congr 1
    refine List.map_congr_left fun j hj => ?_
    have := N.ahead hl hj
    rw [List.getD_eq_getElem?_getD, List.getD_eq_getElem?_getD, List.append_assoc, List.getElem?_append_left (by simp; omega)]
end
end RT

set_option Elab.async false
set_option linter.all false
/-! AlgR: spans, echelons, ranks. -/
namespace RT
open Lean.Grind (CommRing)
section
variable {K : Type} [CommRing K]
/-! ### spans -/
def Span (n : Nat) (A : List (List K)) (v : List K) : Prop := ∃ c : List K, v = lin n c A
abbrev Rws (n : Nat) (A : List (List K)) : Prop := ∀ r ∈ A, r.length = n
theorem lin_pad {n : Nat} : ∀ (c : List K) (A : List (List K)), Rws n A → ∃ c' : List K, c'.length = A.length ∧ lin n c A = lin n c' A
  | [], A, h => ⟨zeroL A.length, zeroL_len _, by rw [lin_nil, lin_zero _ _ h]⟩
  | x :: c, [], h => ⟨[], rfl, by rw [lin_nil']; rfl⟩
  | x :: c, r :: A, h => by
    obtain ⟨c', h1, h2⟩ := lin_pad c A fun r hr => h r (List.mem_cons_of_mem _ hr)
    exact ⟨x :: c', by simp [h1], by rw [lin_cons, lin_cons, h2]⟩
variable {n : Nat} {A B C : List (List K)} {u v : List K}
theorem Span.len (hA : Rws n A) (h : Span n A v) : v.length = n := by
  obtain ⟨c, rfl⟩ := h
  exact lin_length c A hA
theorem Span.zero (hA : Rws n A) : Span n A (zeroL n) := ⟨[], rfl⟩
theorem Span.plus (hA : Rws n A) (hu : Span n A u) (hv : Span n A v) : Span n A (plusL u v) := by
  obtain ⟨c, rfl⟩ := hu
  obtain ⟨d, rfl⟩ := hv
  obtain ⟨c', h1, h2⟩ := lin_pad c A hA
  obtain ⟨d', h3, h4⟩ := lin_pad d A hA
  exact ⟨plusL c' d', by rw [h2, h4, lin_plus _ _ _ (by omega) hA]⟩
theorem Span.scale (x : K) (hv : Span n A v) : Span n A (scaleL x v) := by
  obtain ⟨d, rfl⟩ := hv
  exact ⟨scaleL x d, (lin_scale x d A).symm⟩
theorem Span.cons {r : List K} (hA : Rws n (r :: A)) (hv : Span n A v) : Span n (r :: A) v := by
  obtain ⟨d, rfl⟩ := hv
  have h1 := hA r List.mem_cons_self
  have h2 := lin_length d A fun r hr => hA r (List.mem_cons_of_mem _ hr)
  refine ⟨0 :: d, ?_⟩
  rw [lin_cons, scaleL_nil, h1, zero_plusL h2]
theorem Span.mem : ∀ {A : List (List K)} {r : List K}, Rws n A → r ∈ A → Span n A r
  | a :: A, r, hA, h => by
    rcases List.mem_cons.mp h with rfl | h
    · have h1 := hA r List.mem_cons_self
      refine ⟨[1], ?_⟩
      rw [lin_cons, lin_nil, plusL_zero' (by rw [scaleL_len]; exact h1)]
      unfold scaleL
      rw [List.map_congr_left (g := id) (fun x _ => by show 1 * x = x; grind), List.map_id]
    · exact (Span.mem (fun r hr => hA r (List.mem_cons_of_mem _ hr)) h).cons hA
theorem Span.lin (hA : Rws n A) : ∀ {B : List (List K)} (c : List K), (∀ r ∈ B, Span n A r) → Span n A (lin n c B)
  | [], c, _ => by rw [lin_nil']; exact .zero hA
  | b :: B, [], _ => by rw [lin_nil]; exact .zero hA
  | b :: B, x :: c, h => by
    rw [lin_cons]
    exact .plus hA (.scale x (h b List.mem_cons_self)) (Span.lin hA c fun r hr => h r (List.mem_cons_of_mem _ hr))
/-- all of one span lies in another one -/
def Sb (n : Nat) (A B : List (List K)) : Prop := ∀ r ∈ A, Span n B r
theorem Sb.span (hB : Rws n B) (h : Sb n A B) (hv : Span n A v) : Span n B v := by
  obtain ⟨c, rfl⟩ := hv
  exact .lin hB c h
theorem Sb.refl (hA : Rws n A) : Sb n A A := fun r hr => .mem hA hr
theorem Sb.trans (hC : Rws n C) (h1 : Sb n A B) (h2 : Sb n B C) : Sb n A C := fun r hr => h2.span hC (h1 r hr)
theorem Sb.of_sub (hB : Rws n B) (h : ∀ r ∈ A, r ∈ B) : Sb n A B := fun r hr => .mem hB (h r hr)
theorem Sb.rws (hB : Rws n B) (h : Sb n A B) : Rws n A := fun r hr => (h r hr).len hB
/-! ### rows cleared -/
def clr (row first : List K) (c : Nat) : List K := List.zipWith (fun a b => a - fnl row c * b) row first
theorem clr_len {r f : List K} {c : Nat} (h : r.length = f.length) : (clr r f c).length = r.length := by
  unfold clr
  rw [List.length_zipWith]; omega
theorem fnl_clr {r f : List K} {c : Nat} (h : r.length = f.length) : fnl (clr r f c) = fun j => fnl r j - fnl r c * fnl f j :=
  fnl_zipWith (by grind) h
theorem clr_eq {r f : List K} {c : Nat} (h : r.length = f.length) : clr r f c = plusL r (scaleL (-fnl r c) f) := by
  refine fnl_inj (by rw [clr_len h, plusL_length (by rw [scaleL_len]; exact h), scaleL_len]; exact h) ?_
  rw [fnl_clr h, fnl_plusL (by rw [scaleL_len]; exact h), fnl_scaleL]
  funext j; grind
theorem un_clr {r f : List K} {c : Nat} (h : r.length = f.length) : r = plusL (clr r f c) (scaleL (fnl r c) f) := by
  refine fnl_inj (by rw [plusL_length (by rw [clr_len h, scaleL_len]; exact h), scaleL_len]; exact h) ?_
  rw [fnl_plusL (by rw [clr_len h, scaleL_len]; exact h), fnl_clr h, fnl_scaleL]
  funext j; grind
/-! ### echelons -/
structure Ech (n : Nat) (L : List (Nat × List K)) : Prop where
  len : ∀ p ∈ L, p.2.length = n
  lt : ∀ p ∈ L, p.1 < n
  asc : L.Pairwise fun p q => p.1 < q.1
  one : ∀ p ∈ L, fnl p.2 p.1 = 1
  zer : ∀ p ∈ L, ∀ q ∈ L, p.1 ≠ q.1 → fnl p.2 q.1 = 0
  led : ∀ p ∈ L, ∀ j, j < p.1 → fnl p.2 j = 0
abbrev rw_ (L : List (Nat × List K)) : List (List K) := L.map (·.2)
abbrev ld_ (L : List (Nat × List K)) : List Nat := L.map (·.1)
theorem Ech.rws {L : List (Nat × List K)} (h : Ech n L) : Rws n (rw_ L) := fun r hr => by
  obtain ⟨p, hp, rfl⟩ := List.mem_map.mp hr
  exact h.len p hp
theorem Ech.tail {p : Nat × List K} {L : List (Nat × List K)} (h : Ech n (p :: L)) : Ech n L :=
  ⟨fun q hq => h.len q (List.mem_cons_of_mem _ hq), fun q hq => h.lt q (List.mem_cons_of_mem _ hq), (List.pairwise_cons.mp h.asc).2, fun q hq => h.one q (List.mem_cons_of_mem _ hq),
    fun q hq r hr => h.zer q (List.mem_cons_of_mem _ hq) r (List.mem_cons_of_mem _ hr), fun q hq => h.led q (List.mem_cons_of_mem _ hq)⟩
theorem fnl_lin_zero {j : Nat} : ∀ (c : List K) (A : List (List K)), Rws n A → (∀ r ∈ A, fnl r j = 0) → fnl (lin n c A) j = 0
  | [], A, _, _ => by rw [lin_nil]; unfold zeroL; rw [fnl_repl]
  | x :: c, [], _, _ => by rw [lin_nil']; unfold zeroL; rw [fnl_repl]
  | x :: c, r :: A, h, g => by
    have ih := fnl_lin_zero c A (fun r hr => h r (List.mem_cons_of_mem _ hr)) fun r hr => g r (List.mem_cons_of_mem _ hr)
    have h1 := h r List.mem_cons_self
    have h2 := lin_length c A fun r hr => h r (List.mem_cons_of_mem _ hr)
    rw [lin_cons, fnl_plusL (by rw [scaleL_len]; omega), fnl_scaleL]
    simp only []
    rw [ih, g r List.mem_cons_self]; grind
/-- the coefficients are told at the leads -/
theorem Ech.coef : ∀ {L : List (Nat × List K)} (c : List K), Ech n L → c.length = L.length → c = (ld_ L).map (fnl (lin n c (rw_ L)))
  | [], c, _, h => by simpa using h
  | p :: L, [], _, h => by simp at h
  | p :: L, x :: c, e, h => by
    have hp := e.len p List.mem_cons_self
    have hl := lin_length c (rw_ L) e.tail.rws
    have ne : ∀ q ∈ L, p.1 ≠ q.1 := fun q hq => Nat.ne_of_lt ((List.pairwise_cons.mp e.asc).1 q hq)
    have ih := Ech.coef c e.tail (by simpa using h)
    show x :: c = fnl (plusL (scaleL x p.2) (lin n c (rw_ L))) p.1 :: (ld_ L).map (fnl (plusL (scaleL x p.2) (lin n c (rw_ L))))
    rw [fnl_plusL (by rw [scaleL_len]; omega), fnl_scaleL]
    congr 1
    · simp only []
      rw [e.one p List.mem_cons_self, fnl_lin_zero c (rw_ L) e.tail.rws fun r hr => ?_]
      · grind
      · obtain ⟨q, hq, rfl⟩ := List.mem_map.mp hr
        exact e.zer q (List.mem_cons_of_mem _ hq) p List.mem_cons_self (Ne.symm (ne q hq))
    · conv => lhs; rw [ih]
      refine List.map_congr_left fun j hj => ?_
      obtain ⟨q, hq, rfl⟩ := List.mem_map.mp hj
      simp only []
      rw [e.zer p List.mem_cons_self q (List.mem_cons_of_mem _ hq) (ne q hq)]
      grind
/-- what lies in the span is told by its numbers at the leads -/
theorem Ech.at {L : List (Nat × List K)} (e : Ech n L) (h : Span n (rw_ L) v) : v = lin n ((ld_ L).map (fnl v)) (rw_ L) := by
  obtain ⟨c, rfl⟩ := h
  obtain ⟨c', h1, h2⟩ := lin_pad c (rw_ L) e.rws
  rw [h2]
  conv => lhs; rw [e.coef c' (by rw [h1, List.length_map])]
/-- the leads of one echelon stand among those of another one that spans it -/
theorem Ech.leads_sub (h10 : (1 : K) ≠ 0) {L L' : List (Nat × List K)} (e : Ech n L) (e' : Ech n L') (h : Sb n (rw_ L) (rw_ L')) : ∀ j ∈ ld_ L, j ∈ ld_ L' := by
  intro j hj
  obtain ⟨p, hp, rfl⟩ := List.mem_map.mp hj
  refine Classical.byContradiction fun hn => ?_
  have hs := h p.2 (List.mem_map.mpr ⟨p, hp, rfl⟩)
  have h1 := e'.at hs
  have z : fnl p.2 p.1 = 0 := by
    -- term by term
    have key : ∀ M : List (Nat × List K), Ech n M → (∀ q ∈ M, q.1 ≠ p.1) → fnl (lin n ((ld_ M).map (fnl p.2)) (rw_ M)) p.1 = 0 := by
      intro M
      induction M with
      | nil => intro _ _; show fnl (zeroL n) p.1 = 0; unfold zeroL; rw [fnl_repl]
      | cons q M ih =>
        intro eM hq
        have hl := lin_length ((ld_ M).map (fnl p.2)) (rw_ M) eM.tail.rws
        have hql := eM.len q List.mem_cons_self
        show fnl (plusL (scaleL (fnl p.2 q.1) q.2) (lin n ((ld_ M).map (fnl p.2)) (rw_ M))) p.1 = 0
        rw [fnl_plusL (by rw [scaleL_len]; omega), fnl_scaleL]
        simp only []
        rw [ih eM.tail fun r hr => hq r (List.mem_cons_of_mem _ hr)]
        rcases Nat.lt_or_gt_of_ne (hq q List.mem_cons_self) with w | w
        · rw [e.led p hp q.1 w]; grind
        · rw [eM.led q List.mem_cons_self p.1 w]; grind
    rw [h1]
    exact key L' e' fun q hq z => hn (List.mem_map.mpr ⟨q, hq, z⟩)
  rw [e.one p hp] at z
  exact h10 z
theorem asc_eq : ∀ {l m : List Nat}, l.Pairwise (· < ·) → m.Pairwise (· < ·) → (∀ j, j ∈ l ↔ j ∈ m) → l = m
  | [], [], _, _, _ => rfl
  | [], y :: m, _, _, h => by have := (h y).mpr List.mem_cons_self; cases this
  | x :: l, [], _, _, h => by have := (h x).mp List.mem_cons_self; cases this
  | x :: l, y :: m, hl, hm, h => by
    obtain ⟨h1, h2⟩ := List.pairwise_cons.mp hl
    obtain ⟨h3, h4⟩ := List.pairwise_cons.mp hm
    have e : x = y := by
      rcases List.mem_cons.mp ((h x).mp List.mem_cons_self) with e | e
      · exact e
      · rcases List.mem_cons.mp ((h y).mpr List.mem_cons_self) with f | f
        · exact f.symm
        · have := h3 x e; have := h1 y f; omega
    subst e
    rw [asc_eq h2 h4 fun j => ⟨fun hj => ?_, fun hj => ?_⟩]
    · rcases List.mem_cons.mp ((h j).mp (List.mem_cons_of_mem _ hj)) with f | f
      · subst f; exact absurd (h1 j hj) (Nat.lt_irrefl _)
      · exact f
    · rcases List.mem_cons.mp ((h j).mpr (List.mem_cons_of_mem _ hj)) with f | f
      · subst f; exact absurd (h3 j hj) (Nat.lt_irrefl _)
      · exact f
theorem Ech.ascL {L : List (Nat × List K)} (e : Ech n L) : (ld_ L).Pairwise (· < ·) := List.pairwise_map.mpr e.asc
theorem sub_len : ∀ {l m : List Nat}, l.Pairwise (· < ·) → (∀ j ∈ l, j ∈ m) → l.length ≤ m.length
  | [], m, _, _ => Nat.zero_le _
  | x :: l, m, hl, h => by
    obtain ⟨h1, h2⟩ := List.pairwise_cons.mp hl
    have hx := h x List.mem_cons_self
    have ih := sub_len (m := m.erase x) h2 fun j hj => (List.mem_erase_of_ne (by have := h1 j hj; omega)).mpr (h j (List.mem_cons_of_mem _ hj))
    rw [List.length_erase_of_mem hx] at ih
    have := List.length_pos_of_mem hx
    rw [List.length_cons]; omega
/-- a greater span, a greater rank -/
theorem Ech.rank_le (h10 : (1 : K) ≠ 0) {L L' : List (Nat × List K)} (e : Ech n L) (e' : Ech n L') (h : Sb n (rw_ L) (rw_ L')) : L.length ≤ L'.length := by
  have := sub_len e.ascL (e.leads_sub h10 e' h)
  simpa using this
/-- one span, one echelon -/
theorem Ech.uniq (h10 : (1 : K) ≠ 0) {L L' : List (Nat × List K)} (e : Ech n L) (e' : Ech n L') (h : Sb n (rw_ L) (rw_ L')) (h' : Sb n (rw_ L') (rw_ L)) : L = L' := by
  have hl : ld_ L = ld_ L' := asc_eq e.ascL e'.ascL fun j => ⟨e.leads_sub h10 e' h j, e'.leads_sub h10 e h' j⟩
  have len : L.length = L'.length := by simpa using congrArg List.length hl
  refine List.ext_getElem len fun i h1 h2 => ?_
  have hi : L[i].1 = L'[i].1 := by
    have := congrArg (fun l => l[i]?) hl
    simpa [h1, h2] using this
  have m1 : L[i] ∈ L := List.getElem_mem h1
  have m2 : L'[i] ∈ L' := List.getElem_mem h2
  refine Prod.ext hi ?_
  have a1 := e'.at (h _ (List.mem_map.mpr ⟨_, m1, rfl⟩))
  have a2 := e'.at (Span.mem e'.rws (List.mem_map.mpr ⟨_, m2, rfl⟩))
  rw [a1, a2]
  congr 1
  refine List.map_congr_left fun j hj => ?_
  obtain ⟨q, hq, rfl⟩ := List.mem_map.mp hj
  obtain ⟨p, hp, hpq⟩ := List.mem_map.mp (show q.1 ∈ ld_ L from hl ▸ List.mem_map.mpr ⟨q, hq, rfl⟩)
  by_cases z : L[i].1 = q.1
  · rw [← z, e.one _ m1, hi, e'.one _ m2]
  · rw [← hpq, e.zer _ m1 p hp (by rw [hpq]; exact z), hpq, e'.zer _ m2 q hq (by rw [← hi]; exact z)]
/-! ### the echelon, column by column -/
variable [DecidableEq K] (iv : K → K)
abbrev Stt (K : Type) := List (Nat × List K) × List (List K)
def stpC (st : Stt K) (c : Nat) : Stt K :=
  match st.2.findIdx? fun r => decide (fnl r c ≠ 0) with
  | none => st
  | some i => ((st.1.map fun p => (p.1, clr p.2 (scaleL (iv (fnl (st.2.getD i []) c)) (st.2.getD i [])) c)) ++ [(c, scaleL (iv (fnl (st.2.getD i []) c)) (st.2.getD i []))],
      (st.2.eraseIdx i).map fun r => clr r (scaleL (iv (fnl (st.2.getD i []) c)) (st.2.getD i [])) c)
def ledC (cols : Nat) (A : List (List K)) : Stt K := (List.range cols).foldl (stpC iv) ([], A)
theorem ledC_succ (c : Nat) (A : List (List K)) : ledC iv (c + 1) A = stpC iv (ledC iv c A) c := by
  unfold ledC
  rw [List.range_succ, List.foldl_append]; rfl
/-- what holds behind so many columns -/
structure Led (n : Nat) (A : List (List K)) (c : Nat) (st : Stt K) : Prop where
  ech : Ech n st.1
  rws : Rws n st.2
  lt : ∀ p ∈ st.1, p.1 < c
  zer : ∀ r ∈ st.2, ∀ j, j < c → fnl r j = 0
  cnt : st.1.length + st.2.length = A.length
  fro : Sb n (rw_ st.1 ++ st.2) A
  bck : Sb n A (rw_ st.1 ++ st.2)
theorem Led.zero (hA : Rws n A) : Led n A 0 ([], A) :=
  ⟨⟨nofun, nofun, .nil, nofun, nofun, nofun⟩, hA, nofun, fun r hr j hj => absurd hj (Nat.not_lt_zero j), by simp, Sb.refl hA, Sb.refl hA⟩
variable {iv}
theorem Led.step (hiv : ∀ a : K, a ≠ 0 → iv a * a = 1) (hA : Rws n A) {c : Nat} (hc : c < n) {st : Stt K} (L : Led n A c st) : Led n A (c + 1) (stpC iv st c) := by
  unfold stpC
  split
  · rename_i hf
    have hz : ∀ r ∈ st.2, fnl r c = 0 := fun r hr => by
      have := List.findIdx?_eq_none_iff.mp hf r hr
      simpa using this
    refine ⟨L.ech, L.rws, fun p hp => Nat.lt_succ_of_lt (L.lt p hp), fun r hr j hj => ?_, L.cnt, L.fro, L.bck⟩
    rcases Nat.lt_or_eq_of_le (Nat.le_of_lt_succ hj) with h | h
    · exact L.zer r hr j h
    · subst h; exact hz r hr
  · rename_i i hf
    obtain ⟨hi, hp, _⟩ := List.findIdx?_eq_some_iff_getElem.mp hf
    have hg : st.2.getD i [] = st.2[i] := by rw [List.getD_eq_getElem?_getD, List.getElem?_eq_getElem hi]; rfl
    rw [hg]
    generalize hf0 : st.2[i] = f0
    have m0 : f0 ∈ st.2 := by rw [← hf0]; exact List.getElem_mem hi
    have hx : fnl f0 c ≠ 0 := by rw [← hf0]; simpa using hp
    have l0 : f0.length = n := L.rws f0 m0
    generalize hff : scaleL (iv (fnl f0 c)) f0 = f
    have lf : f.length = n := by rw [← hff, scaleL_len]; exact l0
    have fn_f : fnl f = fun j => iv (fnl f0 c) * fnl f0 j := by rw [← hff, fnl_scaleL]
    have f1 : fnl f c = 1 := by rw [fn_f]; exact hiv _ hx
    have fz : ∀ j, j < c → fnl f j = 0 := fun j hj => by
      rw [fn_f]; simp only []
      rw [L.zer f0 m0 j hj]; grind
    have cl : ∀ r : List K, r.length = n → (clr r f c).length = n := fun r hr => by rw [clr_len (hr.trans lf.symm)]; exact hr
    have cf : ∀ r : List K, r.length = n → ∀ j, fnl (clr r f c) j = fnl r j - fnl r c * fnl f j := fun r hr j => by rw [fnl_clr (hr.trans lf.symm)]
    have ri : ∀ r ∈ st.2.eraseIdx i, r ∈ st.2 := fun r hr => List.mem_of_mem_eraseIdx hr
    -- the rows behind the step
    generalize hE : (st.1.map fun p => (p.1, clr p.2 f c)) ++ [(c, f)] = E
    generalize hR : (st.2.eraseIdx i).map (fun r => clr r f c) = R
    have hE' : ∀ p ∈ E, (∃ q ∈ st.1, p = (q.1, clr q.2 f c)) ∨ p = (c, f) := fun p hp => by
      rw [← hE] at hp
      rcases List.mem_append.mp hp with hp | hp
      · obtain ⟨q, hq, rfl⟩ := List.mem_map.mp hp
        exact .inl ⟨q, hq, rfl⟩
      · exact .inr (List.mem_singleton.mp hp)
    have hR' : ∀ r ∈ R, ∃ q ∈ st.2, r = clr q f c := fun r hr => by
      rw [← hR] at hr
      obtain ⟨q, hq, rfl⟩ := List.mem_map.mp hr
      exact ⟨q, ri q hq, rfl⟩
    have ech : Ech n E := by
      refine ⟨fun p hp => ?_, fun p hp => ?_, ?_, fun p hp => ?_, fun p hp q hq hne => ?_, fun p hp j hj => ?_⟩
      · rcases hE' p hp with ⟨q, hq, rfl⟩ | rfl
        · exact cl _ (L.ech.len q hq)
        · exact lf
      · rcases hE' p hp with ⟨q, hq, rfl⟩ | rfl
        · exact L.ech.lt q hq
        · exact hc
      · rw [← hE]
        refine List.pairwise_append.mpr ⟨List.pairwise_map.mpr L.ech.asc, List.pairwise_singleton _ _, fun p hp q hq => ?_⟩
        obtain ⟨p', hp', rfl⟩ := List.mem_map.mp hp
        rw [List.mem_singleton.mp hq]
        exact L.lt p' hp'
      · rcases hE' p hp with ⟨q, hq, rfl⟩ | rfl
        · show fnl (clr q.2 f c) q.1 = 1
          rw [cf _ (L.ech.len q hq), L.ech.one q hq, fz _ (L.lt q hq)]; grind
        · exact f1
      · rcases hE' p hp with ⟨p', hp', rfl⟩ | rfl
        · show fnl (clr p'.2 f c) q.1 = 0
          rw [cf _ (L.ech.len p' hp')]
          rcases hE' q hq with ⟨q', hq', rfl⟩ | rfl
          · show fnl p'.2 q'.1 - fnl p'.2 c * fnl f q'.1 = 0
            rw [L.ech.zer p' hp' q' hq' hne, fz _ (L.lt q' hq')]; grind
          · show fnl p'.2 c - fnl p'.2 c * fnl f c = 0
            rw [f1]; grind
        · rcases hE' q hq with ⟨q', hq', rfl⟩ | rfl
          · exact fz _ (L.lt q' hq')
          · exact absurd rfl hne
      · rcases hE' p hp with ⟨q, hq, rfl⟩ | rfl
        · show fnl (clr q.2 f c) j = 0
          have hj : j < q.1 := hj
          have := L.lt q hq
          rw [cf _ (L.ech.len q hq), L.ech.led q hq j hj, fz j (by omega)]; grind
        · exact fz j hj
    have rws : Rws n R := fun r hr => by
      obtain ⟨q, hq, rfl⟩ := hR' r hr
      exact cl _ (L.rws q hq)
    have old : Rws n (rw_ st.1 ++ st.2) := fun r hr => (List.mem_append.mp hr).elim (L.ech.rws r) (L.rws r)
    have new : Rws n (rw_ E ++ R) := fun r hr => (List.mem_append.mp hr).elim (ech.rws r) (rws r)
    have sf0 : Span n (rw_ st.1 ++ st.2) f0 := .mem old (List.mem_append_right _ m0)
    have sf : Span n (rw_ st.1 ++ st.2) f := by rw [← hff]; exact sf0.scale _
    have mf : f ∈ rw_ E := List.mem_map.mpr ⟨(c, f), by rw [← hE]; exact List.mem_append_right _ List.mem_cons_self, rfl⟩
    have nf : Span n (rw_ E ++ R) f := .mem new (List.mem_append_left _ mf)
    refine ⟨ech, rws, fun p hp => ?_, fun r hr j hj => ?_, ?_, fun r hr => Sb.span hA L.fro ?_, fun r hr => Sb.span new ?_ (L.bck r hr)⟩
    · rcases hE' p hp with ⟨q, hq, rfl⟩ | rfl
      · exact Nat.lt_succ_of_lt (L.lt q hq)
      · exact Nat.lt_succ_self _
    · obtain ⟨q, hq, rfl⟩ := hR' r hr
      rw [cf _ (L.rws q hq)]
      rcases Nat.lt_or_eq_of_le (Nat.le_of_lt_succ hj) with h | h
      · rw [L.zer q hq j h, fz j h]; grind
      · subst h; rw [f1]; grind
    · have := L.cnt
      rw [← hE, ← hR, List.length_append, List.length_map, List.length_singleton, List.length_map, List.length_eraseIdx_of_lt hi]
      omega
    · have cs : ∀ q : List K, q.length = n → Span n (rw_ st.1 ++ st.2) q → Span n (rw_ st.1 ++ st.2) (clr q f c) := fun q hq s => by
        rw [clr_eq (hq.trans lf.symm)]
        exact .plus old s (sf.scale _)
      rcases List.mem_append.mp hr with hr | hr
      · obtain ⟨p, hp, rfl⟩ := List.mem_map.mp hr
        rcases hE' p hp with ⟨q, hq, rfl⟩ | rfl
        · exact cs q.2 (L.ech.len q hq) (.mem old (List.mem_append_left _ (List.mem_map.mpr ⟨q, hq, rfl⟩)))
        · exact sf
      · obtain ⟨q, hq, rfl⟩ := hR' r hr
        exact cs q (L.rws q hq) (.mem old (List.mem_append_right _ hq))
    · intro r hr
      have un : ∀ q : List K, q.length = n → Span n (rw_ E ++ R) (clr q f c) → Span n (rw_ E ++ R) q := fun q hq s => by
        rw [un_clr (r := q) (f := f) (c := c) (hq.trans lf.symm)]
        exact .plus new s (nf.scale _)
      rcases List.mem_append.mp hr with hr | hr
      · obtain ⟨q, hq, rfl⟩ := List.mem_map.mp hr
        refine un q.2 (L.ech.len q hq) (.mem new (List.mem_append_left _ (List.mem_map.mpr ⟨(q.1, clr q.2 f c), ?_, rfl⟩)))
        rw [← hE]
        exact List.mem_append_left _ (List.mem_map.mpr ⟨q, hq, rfl⟩)
      · obtain ⟨j, hj, rfl⟩ := List.getElem_of_mem hr
        by_cases hji : j = i
        · subst hji
          rw [hf0]
          -- f0 is f times its number at the column
          have e0 : f0 = scaleL (fnl f0 c) f := by
            refine fnl_inj (by rw [scaleL_len]; omega) ?_
            rw [fnl_scaleL, fn_f]
            funext k
            have := hiv _ hx
            show fnl f0 k = fnl f0 c * (iv (fnl f0 c) * fnl f0 k)
            have h2 : fnl f0 c * (iv (fnl f0 c) * fnl f0 k) = (iv (fnl f0 c) * fnl f0 c) * fnl f0 k := by grind
            rw [h2, this]; grind
          rw [e0]
          exact nf.scale _
        · refine un _ (L.rws _ (List.getElem_mem hj)) (.mem new (List.mem_append_right _ ?_))
          rw [← hR]
          refine List.mem_map.mpr ⟨st.2[j], ?_, rfl⟩
          exact List.mem_eraseIdx_iff_getElem.mpr ⟨j, hj, hji, rfl⟩
theorem Led.all (hiv : ∀ a : K, a ≠ 0 → iv a * a = 1) (hA : Rws n A) : ∀ c, c ≤ n → Led n A c (ledC iv c A)
  | 0, _ => .zero hA
  | c + 1, h => by
    rw [ledC_succ]
    exact (Led.all hiv hA c (by omega)).step hiv hA (by omega)
/-- the echelon of rows of n numbers -/
def echL (iv : K → K) (n : Nat) (A : List (List K)) : List (Nat × List K) := (ledC iv n A).1
def rankL (iv : K → K) (n : Nat) (A : List (List K)) : Nat := (echL iv n A).length
variable (hiv : ∀ a : K, a ≠ 0 → iv a * a = 1) (h10 : (1 : K) ≠ 0)
include hiv
theorem echL_ech (hA : Rws n A) : Ech n (echL iv n A) := (Led.all hiv hA n (Nat.le_refl _)).ech
theorem echL_sub (hA : Rws n A) : Sb n (rw_ (echL iv n A)) A := fun r hr => (Led.all hiv hA n (Nat.le_refl _)).fro r (List.mem_append_left _ hr)
theorem echL_sup (hA : Rws n A) : Sb n A (rw_ (echL iv n A)) := by
  have L := Led.all hiv hA n (Nat.le_refl _)
  intro r hr
  refine Sb.span L.ech.rws (fun q hq => ?_) (L.bck r hr)
  rcases List.mem_append.mp hq with hq | hq
  · exact .mem L.ech.rws hq
  · have : q = zeroL n := by
      refine fnl_inj (by rw [zeroL_len]; exact L.rws q hq) ?_
      funext j
      unfold zeroL
      rw [fnl_repl]
      by_cases hj : j < n
      · exact L.zer q hq j hj
      · exact fnl_ge (by rw [L.rws q hq]; omega)
    rw [this]
    exact .zero L.ech.rws
theorem rankL_le_len (hA : Rws n A) : rankL iv n A ≤ A.length := by
  have := (Led.all hiv hA n (Nat.le_refl _)).cnt
  unfold rankL echL
  omega
include h10
theorem rankL_mono (hA : Rws n A) (hB : Rws n B) (h : Sb n A B) : rankL iv n A ≤ rankL iv n B :=
  (echL_ech hiv hA).rank_le h10 (echL_ech hiv hB) (((echL_sub hiv hA).trans hB h).trans (echL_ech hiv hB).rws (echL_sup hiv hB))
theorem echL_eq (hA : Rws n A) (hB : Rws n B) (h : Sb n A B) (h' : Sb n B A) : echL iv n A = echL iv n B :=
  (echL_ech hiv hA).uniq h10 (echL_ech hiv hB) (((echL_sub hiv hA).trans hB h).trans (echL_ech hiv hB).rws (echL_sup hiv hB)) (((echL_sub hiv hB).trans hA h').trans (echL_ech hiv hA).rws (echL_sup hiv hA))
/-- an echelon is its own -/
theorem echL_self {L : List (Nat × List K)} (e : Ech n L) : echL iv n (rw_ L) = L :=
  (echL_ech hiv e.rws).uniq h10 e (echL_sub hiv e.rws) (echL_sup hiv e.rws)
end
end RT

set_option Elab.async false
set_option linter.all false
/-! AlgC: cuts of nets and ranks. -/
namespace RT
open Lean.Grind (CommRing)
/-- the links that leave a set of points -/
def cutI (ls : List Lk) (S : Nat → Bool) : List Nat := (ls.zipIdx.filter fun x => S x.1.1 && !S x.1.2).map (·.2)
theorem mem_cutI {ls : List Lk} {S : Nat → Bool} {i : Nat} {l : Lk} (h : ls[i]? = some l) (h1 : S l.1 = true) (h2 : S l.2 = false) : i ∈ cutI ls S := by
  refine List.mem_map.mpr ⟨(l, i), List.mem_filter.mpr ⟨List.mk_mem_zipIdx_iff_getElem?.mpr h, ?_⟩, rfl⟩
  simp [h1, h2]
section
variable {K : Type} [CommRing K]
abbrev rowsAt (n : Nat) (V : List (List K)) (is : List Nat) : List (List K) := is.map fun i => V.getD i (zeroL n)
theorem rowsAt_len {n : Nat} {V : List (List K)} (hV : ∀ r ∈ V, r.length = n) (is : List Nat) : Rws n (rowsAt n V is) := fun r hr => by
  obtain ⟨i, _, rfl⟩ := List.mem_map.mp hr
  rw [List.getD_eq_getElem?_getD]
  cases h : V[i]? with
  | none => exact zeroL_len n
  | some a => exact hV a (List.mem_of_getElem? h)
theorem cut_span {n : Nat} {N : Nt} {code : List (List K)} (hc : code.length = N.l.length) (hV : ∀ r ∈ runV n N.l id (N.l.zip code), r.length = n) (S : Nat → Bool) (h0 : S 0 = true) :
    ∀ (i : Nat) (l : Lk), N.l[i]? = some l → S l.2 = false → Span n (rowsAt n (runV n N.l id (N.l.zip code)) (cutI N.l S)) ((runV n N.l id (N.l.zip code)).getD i (zeroL n)) := by
  intro i
  induction i using Nat.strongRecOn with
  | _ i ih =>
    intro l hl hs
    have hR := rowsAt_len hV (cutI N.l S)
    by_cases ht : S l.1 = true
    · exact .mem hR (List.mem_map.mpr ⟨i, mem_cutI hl ht hs, rfl⟩)
    · have hi := (List.getElem?_eq_some_iff.mp hl).1
      have hn : code[i]? = some (code[i]'(by omega)) := List.getElem?_eq_getElem (by omega)
      have hv := runV_at (src := id) (n := n) hc hl hn
      have hz : ¬ l.1 = 0 := fun z => ht (by rw [z]; exact h0)
      rw [List.getD_eq_getElem?_getD, hv]
      show Span n _ (stepV n N.l id (runV n N.l id (N.l.zip code)) (l, _))
      unfold stepV
      rw [if_neg hz]
      refine .lin hR _ fun r hr => ?_
      obtain ⟨j, hj, rfl⟩ := List.mem_map.mp hr
      obtain ⟨l', h1, h2⟩ := mem_into.mp hj
      exact ih j (N.ahead hl hj) l' h1 (by rw [h2]; simpa using ht)
/-! ### unit rows -/
def unitL (n j : Nat) : List K := (List.range n).map fun k => if k = j then 1 else 0
theorem unitL_len (n j : Nat) : (unitL n j : List K).length = n := by unfold unitL; simp
theorem fnl_unitL (n j k : Nat) (hj : j < n) : fnl (unitL n j : List K) k = if k = j then 1 else 0 := by
  by_cases hk : k < n
  · rw [fnl_lt (by rw [unitL_len]; exact hk)]
    unfold unitL
    simp
  · rw [fnl_ge (by rw [unitL_len]; omega), if_neg (by omega)]
def unitR (n : Nat) : List (List K) := (List.range n).map (unitL n)
theorem unitR_rws (n : Nat) : Rws n (unitR n : List (List K)) := fun r hr => by
  obtain ⟨j, _, rfl⟩ := List.mem_map.mp hr
  exact unitL_len n j
theorem fnl_units {n : Nat} (f : Nat → K) (j : Nat) : ∀ is : List Nat, is.Nodup → (∀ i ∈ is, i < n) → fnl (lin n (is.map f) (is.map (unitL n))) j = if j ∈ is then f j else 0
  | [], _, _ => by show fnl (zeroL n) j = _; unfold zeroL; rw [fnl_repl]; simp
  | i :: is, hn, hi => by
    have ih := fnl_units (n := n) f j is (List.nodup_cons.mp hn).2 fun k hk => hi k (List.mem_cons_of_mem _ hk)
    have hl := lin_length (is.map f) (is.map (unitL (K := K) n)) (n := n) fun r hr => by
      obtain ⟨k, _, rfl⟩ := List.mem_map.mp hr
      exact unitL_len n k
    rw [List.map_cons, List.map_cons, lin_cons, fnl_plusL (by rw [scaleL_len, unitL_len, hl]), fnl_scaleL]
    simp only []
    rw [fnl_unitL n i j (hi i List.mem_cons_self), ih]
    have hni := (List.nodup_cons.mp hn).1
    by_cases h : j = i
    · subst h; simp [hni]; grind
    · simp [h]; grind
theorem lin_unit {n : Nat} {v : List K} (hv : v.length = n) : lin n v (unitR n) = v := by
  have e : v = (List.range n).map (fnl v) := by
    refine List.ext_getElem (by simp [hv]) fun i h1 h2 => ?_
    rw [List.getElem_map, List.getElem_range, fnl_lt h1]
  have hl := lin_length v (unitR n) (unitR_rws (K := K) n)
  refine fnl_inj (by rw [hl, hv]) ?_
  funext j
  conv => lhs; rw [e]
  unfold unitR
  rw [fnl_units (fnl v) j _ List.nodup_range fun i hi => List.mem_range.mp hi]
  split
  · rfl
  · rename_i h
    rw [fnl_ge (by rw [hv]; simpa using h)]
theorem Ech.len_le {n : Nat} {L : List (Nat × List K)} (e : Ech n L) : L.length ≤ n := by
  have := sub_len e.ascL (m := List.range n) fun j hj => by
    obtain ⟨p, hp, rfl⟩ := List.mem_map.mp hj
    exact List.mem_range.mpr (e.lt p hp)
  simpa using this
variable [DecidableEq K] {iv : K → K} (hiv : ∀ a : K, a ≠ 0 → iv a * a = 1) (h10 : (1 : K) ≠ 0)
include hiv
theorem rankL_le {n : Nat} {A : List (List K)} (hA : Rws n A) : rankL iv n A ≤ n := (echL_ech hiv hA).len_le
include h10
theorem rank_cut {n : Nat} {N : Nt} {code : List (List K)} (hc : code.length = N.l.length) (hV : ∀ r ∈ runV n N.l id (N.l.zip code), r.length = n) (S : Nat → Bool) (h0 : S 0 = true) {p : Nat} (hp : S p = false) :
    rankL iv n (rowsAt n (runV n N.l id (N.l.zip code)) (into N.l p)) ≤ (cutI N.l S).length := by
  refine Nat.le_trans (rankL_mono hiv h10 (rowsAt_len hV _) (rowsAt_len hV (cutI N.l S)) fun r hr => ?_) (Nat.le_trans (rankL_le_len hiv (rowsAt_len hV _)) (by simp))
  obtain ⟨i, hi, rfl⟩ := List.mem_map.mp hr
  obtain ⟨l, h1, h2⟩ := mem_into.mp hi
  exact cut_span hc hV S h0 i l h1 (by rw [h2]; exact hp)
omit h10 in
theorem echL_span {n m : Nat} {A W : List (List K)} (hA : Rws n A) (hW : Rws m W) (hWl : W.length = n) : Sb m (A.map fun a => lin m a W) ((rw_ (echL iv n A)).map fun a => lin m a W) := by
  intro r hr
  obtain ⟨a, ha, rfl⟩ := List.mem_map.mp hr
  obtain ⟨c, hc⟩ := echL_sup hiv hA a ha
  refine ⟨c, ?_⟩
  rw [hc, lin_lin hW c _ (echL_ech hiv hA).rws]
/-- a product's rank is not greater -/
theorem rank_mul {n m : Nat} {A W : List (List K)} (hA : Rws n A) (hW : Rws m W) (hWl : W.length = n) : rankL iv m (A.map fun a => lin m a W) ≤ rankL iv n A := by
  have h1 : Rws m (A.map fun a => lin m a W) := fun r hr => by
    obtain ⟨a, _, rfl⟩ := List.mem_map.mp hr
    exact lin_length a W hW
  have h2 : Rws m ((rw_ (echL iv n A)).map fun a => lin m a W) := fun r hr => by
    obtain ⟨a, _, rfl⟩ := List.mem_map.mp hr
    exact lin_length a W hW
  refine Nat.le_trans (rankL_mono hiv h10 h1 h2 (echL_span hiv hA hW hWl)) (Nat.le_trans (rankL_le_len hiv h2) ?_)
  rw [List.length_map, List.length_map]
  exact Nat.le_refl _
omit h10 in
/-- full rank: the unit rows lie in the span -/
theorem full_units {n : Nat} {W : List (List K)} (hW : Rws n W) (hr : rankL iv n W = n) : Sb n (unitR n) W := by
  have e := echL_ech hiv hW
  have hall : ∀ j, j < n → j ∈ ld_ (echL iv n W) := fun j hj => by
    refine Classical.byContradiction fun hn => ?_
    have := sub_len (l := ld_ (echL iv n W)) (m := (List.range n).erase j) e.ascL fun k hk => by
      refine (List.mem_erase_of_ne fun z : k = j => hn (by rw [← z]; exact hk)).mpr ?_
      obtain ⟨p, hp, rfl⟩ := List.mem_map.mp hk
      exact List.mem_range.mpr (e.lt p hp)
    rw [List.length_erase_of_mem (List.mem_range.mpr hj), List.length_range, List.length_map] at this
    have h2 : (echL iv n W).length = n := hr
    omega
  intro r hr'
  obtain ⟨j, hj, rfl⟩ := List.mem_map.mp hr'
  have hj := List.mem_range.mp hj
  obtain ⟨p, hp, rfl⟩ := List.mem_map.mp (hall j hj)
  have : (unitL n p.1 : List K) = p.2 := by
    refine fnl_inj (by rw [unitL_len, e.len p hp]) ?_
    funext k
    rw [fnl_unitL n p.1 k hj]
    by_cases hk : k < n
    · obtain ⟨q, hq, rfl⟩ := List.mem_map.mp (hall k hk)
      split
      · rename_i h; rw [h, e.one p hp]
      · rename_i h; rw [e.zer p hp q hq fun z => h z.symm]
    · rw [fnl_ge (by rw [e.len p hp]; omega), if_neg (by omega)]
  rw [this]
  exact echL_sub hiv hW p.2 (List.mem_map.mpr ⟨p, hp, rfl⟩)
omit hiv h10 in
theorem Sb.mul {n : Nat} : ∀ {A B : List (List K)}, Rws n B → Sb n A B → ∃ T : List (List K), T.length = A.length ∧ Rws B.length T ∧ T.map (fun t => lin n t B) = A
  | [], B, _, _ => ⟨[], rfl, nofun, rfl⟩
  | a :: A, B, hB, h => by
    obtain ⟨T, h1, h2, h3⟩ := Sb.mul (A := A) hB fun r hr => h r (List.mem_cons_of_mem _ hr)
    obtain ⟨c, hc⟩ := h a List.mem_cons_self
    obtain ⟨c', h4, h5⟩ := lin_pad c B hB
    refine ⟨c' :: T, by simp [h1], fun r hr => ?_, by rw [List.map_cons, h3, hc, h5]⟩
    rcases List.mem_cons.mp hr with rfl | hr
    · exact h4
    · exact h2 r hr
/-- rows that can be undone -/
theorem full_inv {n : Nat} {W : List (List K)} (hW : Rws n W) (hWl : W.length = n) (hr : rankL iv n W = n) : ∃ T : List (List K), Rws n T ∧ T.length = n ∧ (∀ v : List K, v.length = n → lin n (lin n v T) W = v) ∧ ∀ v : List K, v.length = n → lin n (lin n v W) T = v := by
  obtain ⟨T, t1, t2, t3⟩ := Sb.mul hW (full_units hiv hW hr)
  have ul : (unitR n : List (List K)).length = n := by unfold unitR; simp
  rw [hWl] at t2
  rw [ul] at t1
  have ru : n ≤ rankL iv n (unitR n : List (List K)) := by
    conv => lhs; rw [← hr]
    exact rankL_mono hiv h10 hW (unitR_rws n) fun r hr' => ⟨r, (lin_unit (hW r hr')).symm⟩
  have rt : rankL iv n T = n := by
    have h1 := rank_mul hiv h10 t2 hW hWl
    rw [t3] at h1
    have h2 := rankL_le hiv t2
    omega
  obtain ⟨U, u1, u2, u3⟩ := Sb.mul t2 (full_units hiv t2 rt)
  rw [t1] at u2
  rw [ul] at u1
  refine ⟨T, t2, t1, fun v hv => ?_, fun v hv => ?_⟩
  · rw [lin_lin hW v T t2, t3, lin_unit hv]
  · have e1 : v = lin n (lin n v U) T := by rw [lin_lin t2 v U u2, u3, lin_unit hv]
    have e2 : lin n v W = lin n v U := by
      conv => lhs; rw [e1]
      rw [lin_lin hW _ T t2, t3, lin_unit (lin_length v U u2)]
    rw [e2, ← e1]
theorem rank_inv {n : Nat} {A W : List (List K)} (hA : Rws n A) (hW : Rws n W) (hWl : W.length = n) (hr : rankL iv n W = n) : rankL iv n (A.map fun a => lin n a W) = rankL iv n A := by
  obtain ⟨T, t2, t1, _, e⟩ := full_inv hiv h10 hW hWl hr
  refine Nat.le_antisymm (rank_mul hiv h10 hA hW hWl) ?_
  have h1 := rank_mul hiv h10 (A := A.map fun a => lin n a W) (fun r hr' => by
    obtain ⟨a, _, rfl⟩ := List.mem_map.mp hr'
    exact lin_length a W hW) t2 t1
  have e1 : (A.map fun a => lin n a W).map (fun a => lin n a T) = A := by
    rw [List.map_map]
    conv => rhs; rw [← List.map_id A]
    exact List.map_congr_left fun a ha => e a (hA a ha)
  rw [e1] at h1
  exact h1
end
end RT

set_option Elab.async false
set_option linter.all false
/-! AlgD: products of rows, columns, kernels. -/
namespace RT
open Lean.Grind (CommRing)
section
variable {K : Type} [CommRing K]
/-! ### products of two rows -/
def dot : List K → List K → K
  | a :: as, b :: bs => a * b + dot as bs
  | _, _ => 0
@[simp] theorem dot_nil (b : List K) : dot [] b = 0 := rfl
@[simp] theorem dot_nil' (a : List K) : dot a [] = 0 := by cases a <;> rfl
theorem dot_cons (a b : K) (as bs : List K) : dot (a :: as) (b :: bs) = a * b + dot as bs := rfl
theorem dot_comm : ∀ a b : List K, dot a b = dot b a
  | [], b => by rw [dot_nil, dot_nil']
  | a :: as, [] => by rw [dot_nil, dot_nil']
  | a :: as, b :: bs => by rw [dot_cons, dot_cons, dot_comm as bs]; grind
theorem dot_plus : ∀ (a b c : List K), a.length = b.length → dot (plusL a b) c = dot a c + dot b c
  | [], [], c, _ => by show dot ([] : List K) c = _; rw [dot_nil]; grind
  | x :: a, y :: b, [], _ => by rw [dot_nil', dot_nil', dot_nil']; grind
  | x :: a, y :: b, z :: c, h => by
    have ih := dot_plus a b c (by simpa using h)
    show (x + y) * z + dot (plusL a b) c = _
    rw [ih, dot_cons, dot_cons]; grind
theorem dot_scale (x : K) : ∀ (a c : List K), dot (scaleL x a) c = x * dot a c
  | [], c => by show dot ([] : List K) c = _; rw [dot_nil]; grind
  | y :: a, [] => by rw [dot_nil', dot_nil']; grind
  | y :: a, z :: c => by
    show x * y * z + dot (scaleL x a) c = _
    rw [dot_scale x a c, dot_cons]; grind
theorem dot_zero (n : Nat) (c : List K) : dot (zeroL n) c = 0 := by
  induction n generalizing c with
  | zero => rfl
  | succ n ih =>
    cases c with
    | nil => exact dot_nil' _
    | cons z c =>
      show 0 * z + dot (zeroL n) c = 0
      rw [ih c]; grind
theorem dot_lin {n : Nat} {v : List K} : ∀ (c : List K) (A : List (List K)), Rws n A → dot (lin n c A) v = dot c (A.map fun a => dot a v)
  | [], A, _ => by rw [lin_nil, dot_zero, dot_nil]
  | x :: c, [], _ => by rw [lin_nil', dot_zero]; rfl
  | x :: c, a :: A, h => by
    have h1 := h a List.mem_cons_self
    have hA : Rws n A := fun r hr => h r (List.mem_cons_of_mem _ hr)
    rw [lin_cons, dot_plus _ _ _ (by rw [scaleL_len, h1, lin_length c A hA]), dot_scale, dot_lin c A hA, List.map_cons, dot_cons]
theorem dot_all_zero : ∀ {c v : List K}, (∀ x ∈ v, x = 0) → dot c v = 0
  | [], v, _ => rfl
  | x :: c, [], _ => rfl
  | x :: c, y :: v, h => by
    rw [dot_cons, dot_all_zero (c := c) (v := v) fun z hz => h z (List.mem_cons_of_mem _ hz), h y List.mem_cons_self]; grind
/-- zero with rows, zero with what lies in their span -/
theorem Span.dot_zero {n : Nat} {A : List (List K)} {u v : List K} (hA : Rws n A) (h : Span n A u) (z : ∀ a ∈ A, dot a v = 0) : dot u v = 0 := by
  obtain ⟨c, rfl⟩ := h
  rw [dot_lin c A hA]
  refine dot_all_zero fun x hx => ?_
  obtain ⟨a, ha, rfl⟩ := List.mem_map.mp hx
  exact z a ha
theorem fnl_lin {n j : Nat} : ∀ (c : List K) (A : List (List K)), Rws n A → fnl (lin n c A) j = dot c (A.map fun a => fnl a j)
  | [], A, _ => by rw [lin_nil, dot_nil]; unfold zeroL; rw [fnl_repl]
  | x :: c, [], _ => by rw [lin_nil']; unfold zeroL; rw [fnl_repl]; rfl
  | x :: c, a :: A, h => by
    have h1 := h a List.mem_cons_self
    have hA : Rws n A := fun r hr => h r (List.mem_cons_of_mem _ hr)
    rw [lin_cons, fnl_plusL (by rw [scaleL_len, h1, lin_length c A hA]), fnl_scaleL]
    simp only []
    rw [fnl_lin c A hA, List.map_cons, dot_cons]
theorem lin_cols {n : Nat} (c : List K) (A : List (List K)) (hA : Rws n A) : lin n c A = (List.range n).map fun j => dot c (A.map fun a => fnl a j) := by
  have hl := lin_length c A hA
  refine List.ext_getElem (by simp [hl]) fun i h1 h2 => ?_
  rw [List.getElem_map, List.getElem_range, ← fnl_lin c A hA, fnl_lt h1]
theorem dot_unit {n j : Nat} (hj : j < n) {v : List K} (hv : v.length = n) : dot v (unitL n j) = fnl v j := by
  have e := lin_unit hv
  have : fnl (lin n v (unitR n)) j = fnl v j := by rw [e]
  rw [← this, fnl_lin v _ (unitR_rws n)]
  congr 1
  unfold unitR
  rw [List.map_map]
  refine List.ext_getElem (by simp [unitL]) fun i h1 h2 => ?_
  have hi : i < n := by rw [unitL_len] at h1; exact h1
  rw [List.getElem_map, List.getElem_range, ← fnl_lt h1, fnl_unitL n j i hj]
  show _ = fnl (unitL n i) j
  rw [fnl_unitL n i j hi]
  by_cases h : i = j
  · rw [if_pos h, if_pos h.symm]
  · rw [if_neg h, if_neg (Ne.symm h)]
/-! ### columns -/
def trs (n : Nat) (A : List (List K)) : List (List K) := (List.range n).map fun j => A.map fun r => fnl r j
theorem trs_len (n : Nat) (A : List (List K)) : (trs n A).length = n := by unfold trs; simp
theorem trs_rws (n : Nat) (A : List (List K)) : Rws A.length (trs n A) := fun r hr => by
  obtain ⟨j, _, rfl⟩ := List.mem_map.mp hr
  rw [List.length_map]
theorem trs_trs {n : Nat} {A : List (List K)} (hA : Rws n A) : trs A.length (trs n A) = A := by
  unfold trs
  refine List.ext_getElem (by simp) fun i h1 h2 => ?_
  rw [List.getElem_map, List.getElem_range, List.map_map]
  have hr := hA A[i] (List.getElem_mem h2)
  refine List.ext_getElem (by simp [hr]) fun j h3 h4 => ?_
  rw [List.getElem_map, List.getElem_range]
  simp only [Function.comp]
  rw [fnl_lt (by rw [List.length_map]; exact h2), List.getElem_map, fnl_lt (by omega)]
/-! ### columns picked -/
def sel (cs : List Nat) (v : List K) : List K := cs.map (fnl v)
theorem sel_len (cs : List Nat) (v : List K) : (sel cs v).length = cs.length := List.length_map _
theorem sel_lin {n : Nat} (cs : List Nat) (c : List K) (A : List (List K)) (hA : Rws n A) : sel cs (lin n c A) = lin cs.length c (A.map (sel cs)) := by
  have hR : Rws cs.length (A.map (sel cs)) := fun r hr => by
    obtain ⟨a, _, rfl⟩ := List.mem_map.mp hr
    exact sel_len cs a
  rw [lin_cols _ _ hR]
  unfold sel
  refine List.ext_getElem (by simp) fun i h1 h2 => ?_
  have h3 : i < cs.length := by simpa using h1
  have key : ∀ a : List K, fnl (cs.map (fnl a)) i = fnl a cs[i] := fun a => by
    rw [fnl_lt (by rw [List.length_map]; exact h3), List.getElem_map]
  rw [List.getElem_map, List.getElem_map, List.getElem_range, fnl_lin c A hA, List.map_map]
  congr 1
  exact List.map_congr_left fun a _ => (key a).symm
theorem Sb.sel {n : Nat} {A B : List (List K)} (cs : List Nat) (hB : Rws n B) (h : Sb n A B) : Sb cs.length (A.map (sel cs)) (B.map (sel cs)) := fun r hr => by
  obtain ⟨a, ha, rfl⟩ := List.mem_map.mp hr
  obtain ⟨c, hc⟩ := h a ha
  exact ⟨c, by rw [hc, sel_lin cs c B hB]⟩
variable [DecidableEq K] {iv : K → K} (hiv : ∀ a : K, a ≠ 0 → iv a * a = 1) (h10 : (1 : K) ≠ 0)
include hiv h10
theorem rank_unit (n : Nat) : rankL iv n (unitR n) = n := by
  have hE : Ech n ((List.range n).map fun j => ((j, unitL n j) : Nat × List K)) := by
    refine ⟨fun p hp => ?_, fun p hp => ?_, ?_, fun p hp => ?_, fun p hp q hq hne => ?_, fun p hp j hj => ?_⟩
    · obtain ⟨j, _, rfl⟩ := List.mem_map.mp hp; exact unitL_len n j
    · obtain ⟨j, hj, rfl⟩ := List.mem_map.mp hp; exact List.mem_range.mp hj
    · exact List.pairwise_map.mpr List.pairwise_lt_range
    · obtain ⟨j, hj, rfl⟩ := List.mem_map.mp hp
      show fnl (unitL n j) j = 1
      rw [fnl_unitL n j j (List.mem_range.mp hj), if_pos rfl]
    · obtain ⟨j, hj, rfl⟩ := List.mem_map.mp hp
      obtain ⟨k, hk, rfl⟩ := List.mem_map.mp hq
      show fnl (unitL n j) k = 0
      rw [fnl_unitL n j k (List.mem_range.mp hj), if_neg (Ne.symm hne)]
    · obtain ⟨k, hk, rfl⟩ := List.mem_map.mp hp
      show fnl (unitL n k) j = 0
      have hj : j < k := hj
      rw [fnl_unitL n k j (List.mem_range.mp hk), if_neg (by omega)]
  have e : rw_ ((List.range n).map fun j => ((j, unitL n j) : Nat × List K)) = unitR n := by
    unfold rw_ unitR
    rw [List.map_map]; rfl
  have := echL_self hiv h10 hE
  rw [e] at this
  unfold rankL
  rw [this]; simp
theorem rank_ge_sel {n : Nat} {A : List (List K)} (hA : Rws n A) (cs : List Nat) (h : Sb cs.length (unitR cs.length) (A.map (sel cs))) : cs.length ≤ rankL iv n A := by
  have hE := echL_ech hiv hA
  have hS : ∀ B : List (List K), Rws cs.length (B.map (RT.sel cs)) := fun B r hr => by
    obtain ⟨a, _, rfl⟩ := List.mem_map.mp hr
    exact sel_len cs a
  have h1 := (echL_sup hiv hA).sel cs hE.rws
  have h2 := h.trans (hS _) h1
  have h3 := rankL_mono hiv h10 (unitR_rws _) (hS _) h2
  rw [rank_unit hiv h10] at h3
  refine Nat.le_trans h3 (Nat.le_trans (rankL_le_len hiv (hS _)) ?_)
  rw [List.length_map, List.length_map]
  exact Nat.le_refl _
theorem rank_trs_le {n : Nat} {A : List (List K)} (hA : Rws n A) : rankL iv A.length (trs n A) ≤ rankL iv n A := by
  have hE := echL_ech hiv hA
  obtain ⟨T, t1, t2, t3⟩ := Sb.mul hE.rws (echL_sup hiv hA)
  have h1 : Sb A.length (trs n A) (trs (rw_ (echL iv n A)).length T) := fun r hr => by
    obtain ⟨j, hj, rfl⟩ := List.mem_map.mp hr
    refine ⟨(rw_ (echL iv n A)).map fun a => fnl a j, ?_⟩
    have hR := trs_rws (rw_ (echL iv n A)).length T
    rw [t1] at hR
    rw [lin_cols _ _ hR]
    conv => lhs; rw [← t3]
    rw [List.map_map]
    refine List.ext_getElem (by simp [t1]) fun i g1 g2 => ?_
    rw [List.length_map] at g1
    rw [List.getElem_map, List.getElem_map, List.getElem_range]
    simp only [Function.comp]
    rw [fnl_lin _ _ hE.rws, dot_comm]
    congr 1
    unfold trs
    rw [List.map_map]
    have hti := t2 T[i] (List.getElem_mem g1)
    refine List.ext_getElem (by rw [hti]; simp) fun k k1 k2 => ?_
    rw [List.getElem_map, List.getElem_range]
    simp only [Function.comp]
    rw [fnl_lt (by rw [List.length_map]; exact g1), List.getElem_map, fnl_lt k1]
  have hR := trs_rws (rw_ (echL iv n A)).length T
  rw [t1] at hR
  refine Nat.le_trans (rankL_mono hiv h10 (trs_rws n A) hR h1) (Nat.le_trans (rankL_le_len hiv hR) ?_)
  rw [trs_len, List.length_map]
  exact Nat.le_refl _
/-- as many independent columns as rows -/
theorem rank_trs {n : Nat} {A : List (List K)} (hA : Rws n A) : rankL iv A.length (trs n A) = rankL iv n A := by
  refine Nat.le_antisymm (rank_trs_le hiv h10 hA) ?_
  have := rank_trs_le hiv h10 (trs_rws n A)
  rw [trs_len, trs_trs hA] at this
  exact this
omit hiv h10
/-! ### kernels -/
def freeL (n : Nat) (L : List (Nat × List K)) : List Nat := (List.range n).filter fun j => !(ld_ L).contains j
theorem free_len {n : Nat} {L : List (Nat × List K)} (e : Ech n L) : (freeL n L).length + L.length = n := by
  have h1 : (List.range n).filter (fun j => (ld_ L).contains j) = ld_ L := by
    refine asc_eq (List.Pairwise.filter _ List.pairwise_lt_range) e.ascL fun j => ?_
    rw [List.mem_filter, List.mem_range]
    constructor
    · rintro ⟨_, h⟩; simpa using h
    · intro h
      obtain ⟨p, hp, rfl⟩ := List.mem_map.mp h
      exact ⟨e.lt p hp, by simpa using h⟩
  have h2 := congrArg List.length h1
  rw [List.length_map] at h2
  have key : ∀ (P : Nat → Bool) (l : List Nat), (l.filter fun j => !P j).length + (l.filter P).length = l.length := by
    intro P l
    induction l with
    | nil => rfl
    | cons x l ih =>
      rw [List.filter_cons, List.filter_cons]
      cases P x <;> simp <;> omega
  have h3 := key (fun j => (ld_ L).contains j) (List.range n)
  rw [List.length_range] at h3
  unfold freeL
  omega
/-- zero but for one of the free columns -/
def kv (n : Nat) (L : List (Nat × List K)) (f : Nat) : List K := L.foldl (fun v p => v.set p.1 (-fnl p.2 f)) (unitL n f)
theorem kv_len (n : Nat) (L : List (Nat × List K)) (f : Nat) : (kv n L f).length = n := by
  unfold kv
  have key : ∀ (L : List (Nat × List K)) (v : List K), (L.foldl (fun v p => v.set p.1 (-fnl p.2 f)) v).length = v.length := by
    intro L
    induction L with
    | nil => intro v; rfl
    | cons p L ih => intro v; rw [List.foldl_cons, ih, List.length_set]
  rw [key, unitL_len]
theorem fnl_set' {l : List K} {k : Nat} (h : k < l.length) (x : K) (i : Nat) : fnl (l.set k x) i = if i = k then x else fnl l i := by
  unfold fnl
  rw [List.getD_eq_getElem?_getD, List.getD_eq_getElem?_getD, List.getElem?_set]
  by_cases hi : i = k
  · subst hi; simp [h]
  · rw [if_neg (Ne.symm hi), if_neg hi]
theorem kv_free {n : Nat} {L : List (Nat × List K)} {f j : Nat} (hj : j ∉ ld_ L) : fnl (kv n L f) j = fnl (unitL n f) j := by
  unfold kv
  have key : ∀ (L : List (Nat × List K)) (v : List K), j ∉ ld_ L → fnl (L.foldl (fun v p => v.set p.1 (-fnl p.2 f)) v) j = fnl v j := by
    intro L
    induction L with
    | nil => intro v _; rfl
    | cons p L ih =>
      intro v hn
      have h1 : j ≠ p.1 := fun z => hn (by rw [z]; exact List.mem_cons_self)
      rw [List.foldl_cons, ih _ fun z => hn (List.mem_cons_of_mem _ z)]
      unfold fnl
      simp [List.getD_eq_getElem?_getD, List.getElem?_set_ne (Ne.symm h1)]
  exact key L _ hj
theorem kv_lead {n : Nat} {L : List (Nat × List K)} (e : Ech n L) {f : Nat} {p : Nat × List K} (hp : p ∈ L) : fnl (kv n L f) p.1 = -fnl p.2 f := by
  unfold kv
  have key : ∀ (L : List (Nat × List K)) (v : List K), Ech n L → v.length = n → p ∈ L → fnl (L.foldl (fun v p => v.set p.1 (-fnl p.2 f)) v) p.1 = -fnl p.2 f := by
    intro L
    induction L with
    | nil => intro v _ _ h; cases h
    | cons q L ih =>
      intro v e hv h
      rw [List.foldl_cons]
      by_cases hL : p ∈ L
      · exact ih _ e.tail (by rw [List.length_set]; exact hv) hL
      · have : p = q := (List.mem_cons.mp h).resolve_right hL
        subst this
        have hn : p.1 ∉ ld_ L := fun z => by
          obtain ⟨r, hr, hz⟩ := List.mem_map.mp z
          have := (List.pairwise_cons.mp e.asc).1 r hr
          omega
        have key2 : ∀ (L : List (Nat × List K)) (v : List K), p.1 ∉ ld_ L → fnl (L.foldl (fun v p => v.set p.1 (-fnl p.2 f)) v) p.1 = fnl v p.1 := by
          intro L
          induction L with
          | nil => intro v _; rfl
          | cons q L ih =>
            intro v hn
            have h1 : p.1 ≠ q.1 := fun z => hn (by rw [z]; exact List.mem_cons_self)
            rw [List.foldl_cons, ih _ fun z => hn (List.mem_cons_of_mem _ z)]
            unfold fnl
            simp [List.getD_eq_getElem?_getD, List.getElem?_set_ne (Ne.symm h1)]
        rw [key2 L _ hn, fnl_set' (by rw [hv]; exact e.lt p h), if_pos rfl]
  exact key L _ e (unitL_len n f) hp
theorem mem_free {n : Nat} {L : List (Nat × List K)} {j : Nat} : j ∈ freeL n L ↔ j < n ∧ j ∉ ld_ L := by
  unfold freeL
  rw [List.mem_filter, List.mem_range]
  simp
theorem free_nodup (n : Nat) (L : List (Nat × List K)) : (freeL n L).Nodup := List.Pairwise.filter _ List.nodup_range
theorem kv_eq {n : Nat} {L : List (Nat × List K)} (e : Ech n L) {f : Nat} (hf : f ∈ freeL n L) : kv n L f = plusL (unitL n f) (lin n (L.map fun p => -fnl p.2 f) (L.map fun p => unitL n p.1)) := by
  obtain ⟨f1, f2⟩ := mem_free.mp hf
  have hR : ∀ L : List (Nat × List K), Rws n (L.map fun p => (unitL n p.1 : List K)) := fun L r hr => by
    obtain ⟨p, _, rfl⟩ := List.mem_map.mp hr
    exact unitL_len n p.1
  have hl := lin_length (L.map fun p => -fnl p.2 f) _ (hR L)
  refine fnl_inj (by rw [kv_len, plusL_length (by rw [unitL_len, hl]), hl]) ?_
  funext j
  rw [fnl_plusL (by rw [unitL_len, hl])]
  simp only []
  -- the sum at a column
  have key : ∀ (L : List (Nat × List K)), Ech n L → (j ∉ ld_ L → fnl (lin n (L.map fun p => -fnl p.2 f) (L.map fun p => unitL n p.1)) j = 0) ∧ ∀ p ∈ L, p.1 = j → fnl (lin n (L.map fun p => -fnl p.2 f) (L.map fun p => unitL n p.1)) j = -fnl p.2 f := by
    intro L
    induction L with
    | nil =>
      intro _
      refine ⟨fun _ => ?_, fun p hp => by cases hp⟩
      show fnl (zeroL n) j = 0
      unfold zeroL; rw [fnl_repl]
    | cons q L ih =>
      intro e
      obtain ⟨i1, i2⟩ := ih e.tail
      have hq := e.lt q List.mem_cons_self
      have hl := lin_length (L.map fun p => -fnl p.2 f) _ (hR L)
      rw [List.map_cons, List.map_cons, lin_cons, fnl_plusL (by rw [scaleL_len, unitL_len, hl]), fnl_scaleL]
      simp only []
      rw [fnl_unitL n q.1 j hq]
      refine ⟨fun hn => ?_, fun p hp hpj => ?_⟩
      · have h1 : j ≠ q.1 := fun z => hn (by rw [z]; exact List.mem_cons_self)
        rw [if_neg h1, i1 fun z => hn (List.mem_cons_of_mem _ z)]; grind
      · rcases List.mem_cons.mp hp with rfl | hp
        · have hn : j ∉ ld_ L := fun z => by
            obtain ⟨r, hr, hz⟩ := List.mem_map.mp z
            have := (List.pairwise_cons.mp e.asc).1 r hr
            omega
          rw [if_pos hpj.symm, i1 hn]; grind
        · have h1 : j ≠ q.1 := by
            have := (List.pairwise_cons.mp e.asc).1 p hp
            omega
          rw [if_neg h1, i2 p hp hpj]; grind
  obtain ⟨k1, k2⟩ := key L e
  by_cases hj : j ∈ ld_ L
  · obtain ⟨p, hp, rfl⟩ := List.mem_map.mp hj
    rw [kv_lead e hp, k2 p hp rfl, fnl_unitL n f p.1 f1, if_neg fun z => f2 (by rw [← z]; exact hj)]; grind
  · rw [kv_free hj, k1 hj]; grind
theorem kv_dot {n : Nat} {L : List (Nat × List K)} (e : Ech n L) {f : Nat} (hf : f ∈ freeL n L) {p : Nat × List K} (hp : p ∈ L) : dot p.2 (kv n L f) = 0 := by
  obtain ⟨f1, f2⟩ := mem_free.mp hf
  have hR : ∀ L : List (Nat × List K), Rws n (L.map fun p => (unitL n p.1 : List K)) := fun L r hr => by
    obtain ⟨p, _, rfl⟩ := List.mem_map.mp hr
    exact unitL_len n p.1
  have hpl := e.len p hp
  rw [kv_eq e hf, dot_comm, dot_plus _ _ _ (by rw [unitL_len, lin_length _ _ (hR L)]), dot_comm, dot_unit f1 hpl, dot_lin _ _ (hR L)]
  have key : ∀ (M : List (Nat × List K)), Ech n M → (∀ q ∈ M, q ∈ L) → dot (M.map fun q => -fnl q.2 f) ((M.map fun q => unitL n q.1).map fun a => dot a p.2) = if p ∈ M then -fnl p.2 f else 0 := by
    intro M
    induction M with
    | nil => intro _ _; rfl
    | cons q M ih =>
      intro eM hM
      have ih := ih eM.tail fun r hr => hM r (List.mem_cons_of_mem _ hr)
      rw [List.map_cons, List.map_cons, List.map_cons, dot_cons, ih, dot_comm (unitL n q.1) p.2, dot_unit (eM.lt q List.mem_cons_self) hpl]
      have hq := hM q List.mem_cons_self
      by_cases h : p.1 = q.1
      · have hpq : p = q := by
          refine Classical.byContradiction fun hne => ?_
          obtain ⟨i, hi, rfl⟩ := List.getElem_of_mem hp
          obtain ⟨j, hj, rfl⟩ := List.getElem_of_mem hq
          have asc := e.asc
          rcases Nat.lt_trichotomy i j with w | w | w
          · have := List.pairwise_iff_getElem.mp asc i j hi hj w; omega
          · subst w; exact hne rfl
          · have := List.pairwise_iff_getElem.mp asc j i hj hi w; omega
        subst hpq
        have hn : p ∉ M := fun z => by
          have := (List.pairwise_cons.mp eM.asc).1 p z
          omega
        rw [e.one p hp, if_neg hn, if_pos List.mem_cons_self]; grind
      · have hpq : p ≠ q := fun z => h (by rw [z])
        rw [e.zer p hp q hq h]
        have : p ∈ q :: M ↔ p ∈ M := by simp [hpq]
        simp only [this]; grind
  rw [key L e fun q hq => hq, if_pos hp]; grind
def kers (n : Nat) (L : List (Nat × List K)) : List (List K) := (freeL n L).map (kv n L)
theorem kers_rws (n : Nat) (L : List (Nat × List K)) : Rws n (kers n L) := fun r hr => by
  obtain ⟨f, _, rfl⟩ := List.mem_map.mp hr
  exact kv_len n L f
include hiv h10
theorem kers_rank {n : Nat} {L : List (Nat × List K)} (e : Ech n L) : rankL iv n (kers n L) = (freeL n L).length := by
  refine Nat.le_antisymm ?_ (rank_ge_sel hiv h10 (kers_rws n L) (freeL n L) ?_)
  · refine Nat.le_trans (rankL_le_len hiv (kers_rws n L)) ?_
    unfold kers; rw [List.length_map]; exact Nat.le_refl _
  · have e1 : (kers n L).map (RT.sel (freeL n L)) = unitR (freeL n L).length := by
      unfold kers unitR
      rw [List.map_map]
      refine List.ext_getElem (by simp) fun i h1 h2 => ?_
      rw [List.length_map] at h1
      rw [List.getElem_map, List.getElem_map, List.getElem_range]
      simp only [Function.comp]
      unfold sel unitL
      refine List.ext_getElem (by simp) fun k k1 k2 => ?_
      rw [List.length_map] at k1
      rw [List.getElem_map, List.getElem_map, List.getElem_range]
      have hi := mem_free.mp (List.getElem_mem h1)
      have hk := mem_free.mp (List.getElem_mem k1)
      rw [kv_free hk.2, fnl_unitL n _ _ hi.1]
      have hnd := free_nodup n L
      by_cases hki : k = i
      · subst hki; rw [if_pos rfl, if_pos rfl]
      · rw [if_neg hki, if_neg fun z => hki ((List.getElem_inj hnd).mp z)]
    rw [e1]
    exact Sb.refl (unitR_rws _)
/-- the kernel's echelon -/
theorem kernel_len {n : Nat} {A : List (List K)} (hA : Rws n A) : (echL iv n (kers n (echL iv n A))).length + rankL iv n A = n := by
  have e := echL_ech hiv hA
  have h1 := kers_rank hiv h10 e
  have h2 := free_len e
  unfold rankL at h1 ⊢
  omega
omit h10
theorem kernel_dot {n : Nat} {A : List (List K)} (hA : Rws n A) {a v : List K} (ha : a ∈ A) (hv : v ∈ rw_ (echL iv n (kers n (echL iv n A)))) : dot a v = 0 := by
  have e := echL_ech hiv hA
  refine Span.dot_zero e.rws (echL_sup hiv hA a ha) fun r hr => ?_
  obtain ⟨p, hp, rfl⟩ := List.mem_map.mp hr
  rw [dot_comm]
  refine Span.dot_zero (kers_rws n _) (echL_sub hiv (kers_rws n _) v hv) fun k hk => ?_
  obtain ⟨f, hf, rfl⟩ := List.mem_map.mp hk
  rw [dot_comm]
  exact kv_dot e hf hp
end
end RT

set_option Elab.async false
set_option linter.all false
set_option maxRecDepth 100000
/-! Ev: a walk over the core: what is left to be shown, step by step. -/
namespace RT
open PySem
theorem insS_map {α β : Type} (f : α → β) (lt : β → β → Bool) (x : α) : ∀ l : List α, insS lt (f x) (l.map f) = (insS (fun a b => lt (f a) (f b)) x l).map f
  | [] => rfl
  | y :: r => by
    simp only [List.map_cons, insS]
    split
    · rw [insS_map f lt x r, List.map_cons]
    · rfl
theorem sortS_map {α β : Type} (f : α → β) (lt : β → β → Bool) : ∀ l : List α, sortS lt (l.map f) = (sortS (fun a b => lt (f a) (f b)) l).map f
  | [] => rfl
  | x :: r => by rw [List.map_cons, sortS, sortS_map f lt r, insS_map]; rfl
theorem intsD_key {α : Type} (f : α → Int) : ∀ l : List α, intsD (l.map fun a => .int (f a)) = some (l.map f)
  | [] => rfl
  | x :: r => by simp only [List.map_cons, intsD]; rw [intsD_key f r]; rfl
theorem intsD_all : ∀ l : List Int, intsD (l.map .int) = some l
  | [] => rfl
  | x :: r => by simp only [List.map_cons, intsD]; rw [intsD_all r]; rfl
theorem rowsD_key {α : Type} (f : α → List Int) : ∀ l : List α, (∀ a ∈ l, f a ≠ []) → rowsD (l.map fun a => .tup ((f a).map .int)) = some (l.map f)
  | [], _ => rfl
  | x :: r, h => by
    simp only [List.map_cons, rowsD, intsD_all]
    have := h x List.mem_cons_self
    match e : f x with
    | [] => exact (this e).elim
    | i :: is => simp only [rowsD_key f r fun a ha => h a (List.mem_cons_of_mem _ ha)]; rfl
theorem sorted_int {α : Type} (f : α → Int) (w : List α) : bltop .sorted [.lst (w.map fun a => .int (f a))] = some (true, .lst ((sortS (fun a b => decide (f a < f b)) w).map fun a => .int (f a))) := by
  simp only [bltop, intsD_key]
  rw [sortS_map, List.map_map]; rfl
theorem sorted_row {α : Type} (f : α → List Int) (w : List α) (h : ∀ a ∈ w, f a ≠ []) : bltop .sorted [.lst (w.map fun a => .tup ((f a).map .int))] = some (true, .lst ((sortS (fun a b => lexL (f a) (f b)) w).map fun a => .tup ((f a).map .int))) := by
  cases w with
  | nil => rfl
  | cons x r =>
    have e : intsD ((x :: r).map fun a => D.tup ((f a).map .int)) = none := rfl
    have e2 := rowsD_key f (x :: r) h
    simp only [bltop, e, e2, Option.map_some]
    rw [sortS_map, List.map_map]; rfl
abbrev PX := Nat → D → Nv → Prop
@[simp] theorem repI_length (k : Int) (xs : List D) : (repI k xs).length = k.toNat * xs.length := by
  unfold repI
  rw [List.length_flatten, List.map_replicate, List.sum_replicate_nat]
def wR {α : Type} (r : R α) (Q : α → Nv → Prop) (X : PX) : Prop := match r with
  | .ok a e => Q a e
  | .exc c d e => X c d e
  | .bad => False
theorem wR_bind {α β : Type} {r : R α} {f : α → Nv → R β} {Q : β → Nv → Prop} {X : PX} : wR (r.bind f) Q X = wR r (fun a e => wR (f a e) Q X) X := by
  cases r <;> rfl
theorem wR_imp {α : Type} {r : R α} {Q Q' : α → Nv → Prop} {X : PX} (h : wR r Q X) (i : ∀ a e, Q a e → Q' a e) : wR r Q' X := by
  cases r with
  | ok a e => exact i a e h
  | exc c d e => exact h
  | bad => exact h
/-- a partial step -/
structure Op {α : Type} (o : Option α) (k : α → Prop) : Prop where
  h : ∃ a, o = some a ∧ k a
theorem Op.mk' {α : Type} {o : Option α} {k : α → Prop} {a : α} (h : o = some a) (hk : k a) : Op o k := ⟨a, h, hk⟩
structure LkQ (e : Nv) (v : VL) (k : D → Prop) : Prop where
  h : ∃ d, lkv e v = some d ∧ k d
structure Nth (e : Nv) (i : Nat) (s : Slot) : Prop where
  h : e[i]? = some s
structure Setr (e : Nv) (i : Nat) (s : Slot) (e' : Nv) : Prop where
  h : e.set i s = e'
theorem Nth.zero {s : Slot} {r : Nv} : Nth (s :: r) 0 s := ⟨rfl⟩
theorem Nth.succ {s t : Slot} {r : Nv} {i : Nat} (h : Nth r i s) : Nth (t :: r) (i + 1) s := ⟨by rw [List.getElem?_cons_succ]; exact h.h⟩
theorem Setr.zero {s t : Slot} {r : Nv} : Setr (t :: r) 0 s (s :: r) := ⟨rfl⟩
theorem Setr.succ {s t : Slot} {r r' : Nv} {i : Nat} (h : Setr r i s r') : Setr (t :: r) (i + 1) s (t :: r') := ⟨by rw [List.set_cons_succ, h.h]⟩
/-- a slot that a name may be put in -/
structure Fre (e : Nv) (i : Nat) : Prop where
  h : match e[i]? with
    | some (some (.io, _)) => False
    | some (some (.lk, _)) => False
    | some _ => True
    | none => False
theorem Fre.non {e : Nv} {i : Nat} (h : Nth e i none) : Fre e i := ⟨by rw [h.h]; trivial⟩
theorem Fre.sh {e : Nv} {i : Nat} {d : D} (h : Nth e i (some (.sh, d))) : Fre e i := ⟨by rw [h.h]; trivial⟩
theorem Fre.ow {e : Nv} {i : Nat} {d : D} (h : Nth e i (some (.ow, d))) : Fre e i := ⟨by rw [h.h]; trivial⟩
/-- a slot of no more use -/
inductive J : Slot → Prop
  | non : J none
  | sh {d : D} : J (some (.sh, d))
inductive Jo : Slot → Prop
  | non : Jo none
  | sh {d : D} : Jo (some (.sh, d))
  | ow {d : D} : Jo (some (.ow, d))
theorem Fre.j {e : Nv} {i : Nat} {s : Slot} (h : Nth e i s) (j : J s) : Fre e i := ⟨by
  rw [h.h]
  cases j <;> trivial⟩
theorem Fre.jo {e : Nv} {i : Nat} {s : Slot} (h : Nth e i s) (j : Jo s) : Fre e i := ⟨by
  rw [h.h]
  cases j <;> trivial⟩
structure NoQ (e : Nv) (vs : List Nat) (k : Prop) : Prop where
  n : noOwn e vs = true
  k : k
theorem NoQ.nil {e : Nv} {k : Prop} (h : k) : NoQ e [] k := ⟨rfl, h⟩
theorem NoQ.cons {e : Nv} {v : Nat} {vs : List Nat} {s : Slot} {k : Prop} (n : Nth e v s) (j : J s) (h : NoQ e vs k) : NoQ e (v :: vs) k := ⟨by
  have := h.n
  unfold noOwn at this ⊢
  rw [List.all_cons, this, n.h]
  cases j <;> rfl, h.k⟩
theorem LkQ.fz {e : Nv} {d : D} {k : D → Prop} (h : k d) : LkQ e (.fz d) k := ⟨d, rfl, h⟩
theorem LkQ.fr {e : Nv} {d : D} {k : D → Prop} (h : k d) : LkQ e (.fr d) k := ⟨d, rfl, h⟩
theorem LkQ.pk {e : Nv} {i : Nat} {fl : Fl} {d : D} {k : D → Prop} (n : Nth e i (some (fl, d))) (h : k d) : LkQ e (.pk i) k := ⟨d, by simp only [lkv, n.h], h⟩
/-- frozen for good -/
structure FzQ (e : Nv) (v : VL) (k : D → Nv → Prop) : Prop where
  h : ∃ d e', fzv e v = some (d, e') ∧ k d e'
theorem FzQ.fz {e : Nv} {d : D} {k : D → Nv → Prop} (h : k d e) : FzQ e (.fz d) k := ⟨d, e, rfl, h⟩
theorem FzQ.fr {e : Nv} {d : D} {k : D → Nv → Prop} (h : k d e) : FzQ e (.fr d) k := ⟨d, e, rfl, h⟩
structure FpQ (s : Slot) (i : Nat) (e : Nv) (k : D → Nv → Prop) : Prop where
  h : match s with
    | some (.ow, d) => k d (e.set i (some (.sh, d)))
    | some (.sh, d) => k d e
    | _ => False
theorem FzQ.pk {e : Nv} {i : Nat} {s : Slot} {k : D → Nv → Prop} (n : Nth e i s) (h : FpQ s i e k) : FzQ e (.pk i) k := ⟨by
  have h := h.h
  split at h
  · exact ⟨_, _, by simp only [fzv, n.h], h⟩
  · exact ⟨_, _, by simp only [fzv, n.h], h⟩
  · exact h.elim⟩
theorem FpQ.ow {e e' : Nv} {i : Nat} {d : D} {k : D → Nv → Prop} (s : Setr e i (some (.sh, d)) e') (h : k d e') : FpQ (some (.ow, d)) i e k := ⟨by rw [← s.h] at h; exact h⟩
theorem FpQ.sh {e : Nv} {i : Nat} {d : D} {k : D → Nv → Prop} (h : k d e) : FpQ (some (.sh, d)) i e k := ⟨h⟩
structure FzLQ (e : Nv) (vs : List VL) (k : List D → Nv → Prop) : Prop where
  h : ∃ ds e', fzL e vs = some (ds, e') ∧ k ds e'
theorem FzLQ.nil {e : Nv} {k : List D → Nv → Prop} (h : k [] e) : FzLQ e [] k := ⟨_, _, rfl, h⟩
theorem FzLQ.cons {e : Nv} {v : VL} {vs : List VL} {k : List D → Nv → Prop} (h : FzQ e v fun d e1 => FzLQ e1 vs fun ds e2 => k (d :: ds) e2) : FzLQ e (v :: vs) k := by
  obtain ⟨d, e1, h1, ds, e2, h2, h3⟩ := h
  exact ⟨_, _, by simp only [fzL, h1, h2], h3⟩
theorem fzL_map {α : Type} {e : Nv} (f : α → D) : ∀ xs : List α, fzL e (xs.map fun x => VL.fz (f x)) = some (xs.map f, e)
  | [] => rfl
  | x :: xs => by simp only [List.map_cons, fzL, fzv, fzL_map f xs]
theorem fzL_app {e : Nv} : ∀ (xs : List D) (vs : List VL), fzL e (xs.map VL.fz ++ vs) = (match fzL e vs with | some (ds, e2) => some (xs ++ ds, e2) | none => none)
  | [], vs => by cases h : fzL e vs with
    | none => simp [h]
    | some p => simp [h]
  | x :: xs, vs => by
    simp only [List.map_cons, List.cons_append, fzL, fzv, fzL_app xs vs]
    cases fzL e vs <;> rfl
theorem FzLQ.star {e : Nv} {xs : List D} {vs : List VL} {k : List D → Nv → Prop} (h : FzLQ e vs fun ds e2 => k (xs ++ ds) e2) : FzLQ e (xs.map VL.fz ++ vs) k := by
  obtain ⟨ds, e1, h1, h2⟩ := h
  exact ⟨_, _, by simp only [fzL_app, h1], h2⟩
/-- a value to a target -/
structure StQ (t : T) (d : D) (e : Nv) (k : Nv → Prop) : Prop where
  h : ∃ e', setT t d e = some e' ∧ k e'
structure StsQ (t : List T) (d : List D) (e : Nv) (k : Nv → Prop) : Prop where
  h : ∃ e', setT.setTs t d e = some e' ∧ k e'
theorem setT_vv {e : Nv} {i : Nat} {d : D} (f : Fre e i) : setT (.v i) d e = some (e.set i (some (.sh, d))) := by
  have h := f.h
  cases hs : e[i]? with
  | none => rw [hs] at h; exact h.elim
  | some s =>
    rw [hs] at h
    simp only [setT, hs]
    cases s with
    | none => rfl
    | some p =>
      obtain ⟨fl, d'⟩ := p
      cases fl <;> first | rfl | exact h.elim
theorem StQ.v {e e' : Nv} {i : Nat} {d : D} {k : Nv → Prop} (f : Fre e i) (s : Setr e i (some (.sh, d)) e') (h : k e') : StQ (.v i) d e k := ⟨e', by rw [setT_vv f, s.h], h⟩
theorem StQ.t {e : Nv} {ts : List T} {ds : List D} {k : Nv → Prop} (l : ts.length = ds.length) (h : StsQ ts ds e k) : StQ (.t ts) (.tup ds) e k := by
  obtain ⟨e', h1, h2⟩ := h
  exact ⟨e', by simp only [setT, if_pos l, h1], h2⟩
def fldPut (fs : List (Option D)) (k : Nat) (d : D) : List (Option D) := (fs ++ List.replicate (k + 1 - fs.length) none).set k (some d)
theorem StQ.fld {e e' : Nv} {i c k : Nat} {fs : List (Option D)} {d : D} {q : Nv → Prop} (n : Nth e i (some (.io, .obj c fs))) (hk : k < 1000) (o : ioOnly e i = true) (s : Setr e i (some (.io, .obj c (fldPut fs k d))) e') (h : q e') : StQ (.fld i c k) d e q := by
  refine ⟨e', ?_, h⟩
  simp only [setT, n.h, hk, o]
  simp only [true_and, if_true]
  exact congrArg some s.h
theorem StsQ.nil {e : Nv} {k : Nv → Prop} (h : k e) : StsQ [] [] e k := ⟨e, rfl, h⟩
theorem StsQ.cons {e : Nv} {t : T} {ts : List T} {d : D} {ds : List D} {k : Nv → Prop} (h : StQ t d e fun e1 => StsQ ts ds e1 k) : StsQ (t :: ts) (d :: ds) e k := by
  obtain ⟨e1, h1, e2, h2, h3⟩ := h
  exact ⟨e2, by simp only [setT.setTs, h1, h2], h3⟩
structure SvQ (i : Nat) (v : VL) (e : Nv) (k : Nv → Prop) : Prop where
  h : ∃ e', setV i v e = some e' ∧ k e'
theorem SvQ.fr {e e' : Nv} {i : Nat} {d : D} {k : Nv → Prop} (f : Fre e i) (s : Setr e i (some (.ow, d)) e') (h : k e') : SvQ i (.fr d) e k := by
  refine ⟨e', ?_, h⟩
  have h := f.h
  rw [← s.h]
  cases hs : e[i]? with
  | none => rw [hs] at h; exact h.elim
  | some s =>
    rw [hs] at h
    simp only [setV, hs]
    cases s with
    | none => rfl
    | some p =>
      obtain ⟨fl, d'⟩ := p
      cases fl <;> first | rfl | exact h.elim
theorem SvQ.fz {e : Nv} {i : Nat} {d : D} {k : Nv → Prop} (h : StQ (.v i) d e k) : SvQ i (.fz d) e k := by
  obtain ⟨e', h1, h2⟩ := h
  exact ⟨e', by simp only [setV, fzv, h1], h2⟩
theorem SvQ.pk {e : Nv} {i j : Nat} {k : Nv → Prop} (h : FzQ e (.pk j) fun d e1 => StQ (.v i) d e1 k) : SvQ i (.pk j) e k := by
  obtain ⟨d, e1, h0, e', h1, h2⟩ := h
  exact ⟨e', by simp only [setV, h0, h1], h2⟩
/-! ### operators -/
structure BinQ (op : Bop) (x y : D) (k : VL → Prop) : Prop where
  h : ∃ p, binop op x y = some p ∧ k (rof p)
structure CmpQ (op : Cop) (x y : D) (k : Bool → Prop) : Prop where
  h : ∃ p, cmpop op x y = some p ∧ k p
structure IxQ (x y : D) (k : D → Prop) : Prop where
  h : ∃ p, ixop x y = some p ∧ k p
structure SlQ (x : D) (lo hi : Option Int) (k : VL → Prop) : Prop where
  h : ∃ p, slop x lo hi = some p ∧ k (rof p)
structure RvQ (x : D) (k : VL → Prop) : Prop where
  h : ∃ p, revop x = some p ∧ k (rof p)
structure BlQ (b : Blt) (ds : List D) (k : VL → Prop) : Prop where
  h : ∃ p, bltop b ds = some p ∧ k (rof p)
/-- a test's Bool, an int -/
structure BoQ (d : D) (k : Bool → Prop) : Prop where
  h : ∃ b, d = .bl b ∧ k b
structure InQ (d : D) (k : Int → Prop) : Prop where
  h : ∃ b, d = .int b ∧ k b
theorem BoQ.mk' {b : Bool} {k : Bool → Prop} (h : k b) : BoQ (.bl b) k := ⟨b, rfl, h⟩
theorem InQ.mk' {b : Int} {k : Int → Prop} (h : k b) : InQ (.int b) k := ⟨b, rfl, h⟩
section
variable {k : VL → Prop} {kb : Bool → Prop} {kd : D → Prop} {x y : D} {i j : Int} {b : Bool} {xs ys : List D} {s1 s2 : Str}
theorem BinQ.add (h : k (.fz (.int (i + j)))) : BinQ .add (.int i) (.int j) k := ⟨_, rfl, h⟩
theorem BinQ.sub (h : k (.fz (.int (i - j)))) : BinQ .sub (.int i) (.int j) k := ⟨_, rfl, h⟩
theorem BinQ.mul (c : i64 i = true ∨ i64 j = true) (h : k (.fz (.int (i * j)))) : BinQ .mul (.int i) (.int j) k := ⟨(false, .int (i * j)), by simp only [binop]; rw [if_pos (by simpa using c)], h⟩
theorem BinQ.mod (c : 0 < j) (h : k (.fz (.int (i % j)))) : BinQ .mod (.int i) (.int j) k := ⟨(false, .int (i % j)), by simp only [binop]; rw [if_pos c], h⟩
theorem BinQ.div (c : 0 < j ∧ j < 1073741824) (h : k (.fz (.int (i / j)))) : BinQ .div (.int i) (.int j) k := ⟨(false, .int (i / j)), by simp only [binop]; rw [if_pos c], h⟩
theorem BinQ.pow (c : 0 ≤ j ∧ (i.natAbs.log2 + 1) * j.toNat ≤ 134217728) (h : k (.fz (.int (i ^ j.toNat)))) : BinQ .pow (.int i) (.int j) k := ⟨(false, .int (i ^ j.toNat)), by simp only [binop]; rw [if_pos c], h⟩
theorem BinQ.addT (c : xs.length + ys.length ≤ lim) (h : k (.fz (.tup (xs ++ ys)))) : BinQ .add (.tup xs) (.tup ys) k := ⟨(false, .tup (xs ++ ys)), by simp only [binop]; rw [if_pos c], h⟩
theorem BinQ.addL (c : xs.length + ys.length ≤ lim) (h : k (.fr (.lst (xs ++ ys)))) : BinQ .add (.lst xs) (.lst ys) k := ⟨(true, .lst (xs ++ ys)), by simp only [binop]; rw [if_pos c], h⟩
theorem BinQ.addS (c : s1.length + s2.length ≤ lim) (h : k (.fz (.str (s1 ++ s2)))) : BinQ .add (.str s1) (.str s2) k := ⟨(false, .str (s1 ++ s2)), by simp only [binop]; rw [if_pos c], h⟩
theorem BinQ.mulT (c : j < 2 ^ 63 ∧ -(2 ^ 63) ≤ j ∧ xs.length * j.toNat ≤ lim) (h : k (.fz (.tup (repI j xs)))) : BinQ .mul (.tup xs) (.int j) k := ⟨(false, .tup (repI j xs)), by simp only [binop]; rw [if_pos (by simpa [and_assoc] using c)], h⟩
theorem BinQ.mulL (c : j < 2 ^ 63 ∧ -(2 ^ 63) ≤ j ∧ xs.length * j.toNat ≤ lim) (h : k (.fr (.lst (repI j xs)))) : BinQ .mul (.lst xs) (.int j) k := ⟨(true, .lst (repI j xs)), by simp only [binop]; rw [if_pos (by simpa [and_assoc] using c)], h⟩
theorem CmpQ.eqI (h : kb (decide (i = j))) : CmpQ .eq (.int i) (.int j) kb := ⟨_, rfl, h⟩
theorem CmpQ.neI (h : kb (decide (i ≠ j))) : CmpQ .ne (.int i) (.int j) kb := ⟨_, rfl, (by rw [show (!deq (.int i) (.int j)) = decide (i ≠ j) from by rw [deq, decide_not]; rfl]; exact h)⟩
theorem CmpQ.eq (c : plainD deep x = true) (c' : plainD deep y = true) (h : kb (deq x y)) : CmpQ .eq x y kb := ⟨_, by simp only [cmpop]; rw [c, c']; rfl, h⟩
theorem CmpQ.ne (c : plainD deep x = true) (c' : plainD deep y = true) (h : kb (!deq x y)) : CmpQ .ne x y kb := ⟨_, by simp only [cmpop]; rw [c, c']; rfl, h⟩
theorem CmpQ.lt (h : kb (decide (i < j))) : CmpQ .lt (.int i) (.int j) kb := ⟨_, rfl, h⟩
theorem CmpQ.le (h : kb (decide (i ≤ j))) : CmpQ .le (.int i) (.int j) kb := ⟨_, rfl, h⟩
theorem CmpQ.gt (h : kb (decide (j < i))) : CmpQ .gt (.int i) (.int j) kb := ⟨_, rfl, h⟩
theorem CmpQ.ge (h : kb (decide (j ≤ i))) : CmpQ .ge (.int i) (.int j) kb := ⟨_, rfl, h⟩
theorem CmpQ.isn (h : kb (isNon x)) : CmpQ .isn x .non kb := ⟨_, rfl, h⟩
theorem CmpQ.nisn (h : kb (!isNon x)) : CmpQ .nisn x .non kb := ⟨_, rfl, h⟩
theorem CmpQ.inL (c : plainD deep x = true) (c' : xs.all (plainD deep) = true) (h : kb (xs.any fun y => deq y x)) : CmpQ .inn x (.lst xs) kb := ⟨_, by simp only [cmpop, inop]; rw [c, c']; rfl, h⟩
theorem CmpQ.inT (c : plainD deep x = true) (c' : xs.all (plainD deep) = true) (h : kb (xs.any fun y => deq y x)) : CmpQ .inn x (.tup xs) kb := ⟨_, by simp only [cmpop, inop]; rw [c, c']; rfl, h⟩
theorem CmpQ.ninL (c : plainD deep x = true) (c' : xs.all (plainD deep) = true) (h : kb (!xs.any fun y => deq y x)) : CmpQ .nin x (.lst xs) kb := ⟨_, by simp only [cmpop, inop]; rw [c, c']; rfl, h⟩
theorem CmpQ.ninT (c : plainD deep x = true) (c' : xs.all (plainD deep) = true) (h : kb (!xs.any fun y => deq y x)) : CmpQ .nin x (.tup xs) kb := ⟨_, by simp only [cmpop, inop]; rw [c, c']; rfl, h⟩
theorem atD_map {α : Type} {f : α → D} {w : List α} {i : Int} {a : α} (h0 : 0 ≤ i) (h : w[i.toNat]? = some a) : atD (w.map f) i = some (f a) := by
  have hl := (List.getElem?_eq_some_iff.mp h).1
  unfold atD
  rw [if_pos h0, if_pos (by rw [List.length_map]; omega), List.getElem?_map, h]
  rfl
theorem atD_at {w : List D} {i : Int} {a : D} (h0 : 0 ≤ i) (h : w[i.toNat]? = some a) : atD w i = some a := by
  have hl := (List.getElem?_eq_some_iff.mp h).1
  unfold atD
  rw [if_pos h0, if_pos (by omega), h]
theorem cutD_le (xs : List D) (lo hi : Option Int) : (cutD xs lo hi).length ≤ xs.length := by
  unfold cutD
  rw [List.length_take, List.length_drop]; omega
theorem cutD_mem {xs : List D} {lo hi : Option Int} {d : D} (h : d ∈ cutD xs lo hi) : d ∈ xs := List.mem_of_mem_drop (List.mem_of_mem_take h)
theorem IxQ.l {a : D} (c : atD xs i = some a) (h : kd a) : IxQ (.lst xs) (.int i) kd := ⟨_, c, h⟩
theorem IxQ.t {a : D} (c : atD xs i = some a) (h : kd a) : IxQ (.tup xs) (.int i) kd := ⟨_, c, h⟩
theorem IxQ.s {a : D} (c : atD xs i = some a) (h : kd a) : IxQ (.sls xs) (.int i) kd := ⟨_, c, h⟩
theorem IxQ.d {kvs : List (L2.Key × D)} {q : L2.Key} {a : D} (c : keyD y = some q) (c' : getK kvs q = some a) (h : kd a) : IxQ (.dct kvs) y kd := ⟨_, by simp only [ixop, c]; exact c', h⟩
theorem SlQ.l {lo hi : Option Int} (h : k (.fr (.lst (cutD xs lo hi)))) : SlQ (.lst xs) lo hi k := ⟨_, rfl, h⟩
theorem SlQ.t {lo hi : Option Int} (h : k (.fz (.tup (cutD xs lo hi)))) : SlQ (.tup xs) lo hi k := ⟨_, rfl, h⟩
theorem RvQ.l (h : k (.fr (.lst xs.reverse))) : RvQ (.lst xs) k := ⟨_, rfl, h⟩
theorem RvQ.t (h : k (.fz (.tup xs.reverse))) : RvQ (.tup xs) k := ⟨_, rfl, h⟩
theorem BlQ.lenL (h : k (.fz (.int xs.length))) : BlQ .len [.lst xs] k := ⟨_, rfl, h⟩
theorem BlQ.lenT (h : k (.fz (.int xs.length))) : BlQ .len [.tup xs] k := ⟨_, rfl, h⟩
theorem BlQ.lenS (h : k (.fz (.int xs.length))) : BlQ .len [.sls xs] k := ⟨_, rfl, h⟩
theorem BlQ.lenLm {α : Type} {f : α → D} {w : List α} (h : k (.fz (.int w.length))) : BlQ .len [.lst (w.map f)] k := ⟨_, rfl, by rw [List.length_map]; exact h⟩
theorem BlQ.lenTm {α : Type} {f : α → D} {w : List α} (h : k (.fz (.int w.length))) : BlQ .len [.tup (w.map f)] k := ⟨_, rfl, by rw [List.length_map]; exact h⟩
theorem BlQ.lenSm {α : Type} {f : α → D} {w : List α} (h : k (.fz (.int w.length))) : BlQ .len [.sls (w.map f)] k := ⟨_, rfl, by rw [List.length_map]; exact h⟩
theorem BlQ.lenD {kvs : List (L2.Key × D)} (h : k (.fz (.int kvs.length))) : BlQ .len [.dct kvs] k := ⟨_, rfl, h⟩
theorem BlQ.lenStr (c : s1.length ≤ lim) (h : k (.fz (.int s1.length))) : BlQ .len [.str s1] k := ⟨(false, .int s1.length), by simp only [bltop]; rw [if_pos c], h⟩
theorem BlQ.tupL (h : k (.fz (.tup xs))) : BlQ .tuple [.lst xs] k := ⟨_, rfl, h⟩
theorem BlQ.tupT (h : k (.fz (.tup xs))) : BlQ .tuple [.tup xs] k := ⟨_, rfl, h⟩
theorem BlQ.lstL (h : k (.fr (.lst xs))) : BlQ .list [.lst xs] k := ⟨_, rfl, h⟩
theorem BlQ.lstT (h : k (.fr (.lst xs))) : BlQ .list [.tup xs] k := ⟨_, rfl, h⟩
theorem BlQ.int (h : k (.fz (.int i))) : BlQ .int [.int i] k := ⟨_, rfl, h⟩
theorem BlQ.intB (h : k (.fz (.int (if b then 1 else 0)))) : BlQ .int [.bl b] k := ⟨_, rfl, h⟩
theorem boolsD_map : ∀ bs : List Bool, boolsD (bs.map D.bl) = some bs
  | [] => rfl
  | b :: bs => by rw [List.map_cons, boolsD, boolsD_map bs]; rfl
theorem boolsD_mapf {α : Type} {f : α → Bool} : ∀ bs : List α, boolsD (bs.map fun a => D.bl (f a)) = some (bs.map f)
  | [] => rfl
  | b :: bs => by rw [List.map_cons, boolsD, boolsD_mapf bs]; rfl
theorem intsD_mapf {α : Type} {f : α → Int} : ∀ bs : List α, intsD (bs.map fun a => D.int (f a)) = some (bs.map f)
  | [] => rfl
  | b :: bs => by rw [List.map_cons, intsD, intsD_mapf bs]; rfl
theorem BlQ.all {α : Type} {f : α → Bool} {w : List α} (h : k (.fz (.bl (w.all f)))) : BlQ .all [.lst (w.map fun a => .bl (f a))] k := ⟨_, by simp only [bltop, boolsD_mapf]; rfl, by
  simp only [rof, Bool.false_eq_true, if_false, List.all_map]
  exact h⟩
theorem BlQ.any {α : Type} {f : α → Bool} {w : List α} (h : k (.fz (.bl (w.any f)))) : BlQ .any [.lst (w.map fun a => .bl (f a))] k := ⟨_, by simp only [bltop, boolsD_mapf]; rfl, by
  simp only [rof, Bool.false_eq_true, if_false, List.any_map]
  exact h⟩
theorem BlQ.max (h : k (.fz (.int (Max.max i j)))) : BlQ .max [.int i, .int j] k := ⟨_, rfl, by
  rw [show (if j > i then j else i) = Max.max i j from by omega]; exact h⟩
theorem BlQ.min (h : k (.fz (.int (Min.min i j)))) : BlQ .min [.int i, .int j] k := ⟨_, rfl, by
  rw [show (if j < i then j else i) = Min.min i j from by omega]; exact h⟩
theorem BlQ.abs (h : k (.fz (.int i.natAbs))) : BlQ .abs [.int i] k := ⟨_, rfl, by
  rw [show (if i < 0 then -i else i) = (i.natAbs : Int) from by omega]; exact h⟩
theorem BlQ.sum {α : Type} {f : α → Int} {w : List α} (h : k (.fz (.int (w.map f).sum))) : BlQ .sum [.lst (w.map fun a => .int (f a))] k := ⟨(false, .int (w.map f).sum), by simp only [bltop, intsD_mapf]; rfl, h⟩
theorem BlQ.sortI {α : Type} {f : α → Int} {w : List α} (h : k (.fr (.lst ((sortS (fun a b => decide (f a < f b)) w).map fun a => .int (f a))))) : BlQ .sorted [.lst (w.map fun a => .int (f a))] k := ⟨_, sorted_int f w, h⟩
theorem BlQ.sortR {α : Type} {f : α → List Int} {w : List α} (c : ∀ a ∈ w, f a ≠ []) (h : k (.fr (.lst ((sortS (fun a b => lexL (f a) (f b)) w).map fun a => .tup ((f a).map .int))))) : BlQ .sorted [.lst (w.map fun a => .tup ((f a).map .int))] k := ⟨_, sorted_row f w c, h⟩
theorem BlQ.divmod (c : 0 < j ∧ j < 1073741824) (h : k (.fz (.tup [.int (i / j), .int (i % j)]))) : BlQ .divmod [.int i, .int j] k := ⟨(false, .tup [.int (i / j), .int (i % j)]), by simp only [bltop]; rw [if_pos c], h⟩
theorem BlQ.isi {t : Ty} (c : isiD t x = some b) (h : k (.fz (.bl b))) : BlQ (.isi t) [x] k := ⟨(false, .bl b), by simp only [bltop, c]; rfl, h⟩
end
/-- a test: what is asked on both ways -/
structure IfQ (p : Bool) (A B : Prop) : Prop where
  t : p = true → A
  f : p = false → B
theorem IfQ.tt {A B : Prop} (h : A) : IfQ true A B := ⟨fun _ => h, fun h => Bool.noConfusion h⟩
theorem IfQ.ff {A B : Prop} (h : B) : IfQ false A B := ⟨fun h => Bool.noConfusion h, fun _ => h⟩
theorem IfQ.t1 {p : Bool} {A B : Prop} (hp : p = true) (h : A) : IfQ p A B := ⟨fun _ => h, fun h => by rw [hp] at h; cases h⟩
theorem IfQ.f1 {p : Bool} {A B : Prop} (hp : p = false) (h : B) : IfQ p A B := ⟨fun h => (by rw [hp] at h; cases h), fun _ => h⟩
theorem i64_of {i : Int} (a : -18446744073709551616 < i) (b : i < 18446744073709551616) : i64 i = true := by
  unfold i64
  simp only [Bool.and_eq_true, decide_eq_true_eq]
  exact ⟨a, b⟩
structure LimQ (n : Nat) (k : Prop) : Prop where
  l : n ≤ lim
  k : k
structure LtmQ (n : Nat) (k : Prop) : Prop where
  l : n < lim
  k : k
/-- what a name holds -/
structure VaQ (s : Slot) (i : Nat) (e : Nv) (Q : VL → Nv → Prop) : Prop where
  h : match s with
    | some (.sh, d) => Q (.fz d) e
    | some (_, _) => Q (.pk i) e
    | none => False
theorem VaQ.sh {i : Nat} {e : Nv} {Q : VL → Nv → Prop} {d : D} (h : Q (.fz d) e) : VaQ (some (.sh, d)) i e Q := ⟨h⟩
theorem VaQ.ow {i : Nat} {e : Nv} {Q : VL → Nv → Prop} {d : D} (h : Q (.pk i) e) : VaQ (some (.ow, d)) i e Q := ⟨h⟩
theorem VaQ.io {i : Nat} {e : Nv} {Q : VL → Nv → Prop} {d : D} (h : Q (.pk i) e) : VaQ (some (.io, d)) i e Q := ⟨h⟩
theorem VaQ.lk {i : Nat} {e : Nv} {Q : VL → Nv → Prop} {d : D} (h : Q (.pk i) e) : VaQ (some (.lk, d)) i e Q := ⟨h⟩
/-! ### expressions -/
structure WE (cb : Cal) (K : Nat → Option D) (a : E) (e : Nv) (Q : VL → Nv → Prop) (X : PX) : Prop where
  h : wR (den cb K a e) Q X
structure WL (cb : Cal) (K : Nat → Option D) (a : List E) (e : Nv) (Q : List VL → Nv → Prop) (X : PX) : Prop where
  h : wR (denL cb K a e) Q X
structure WT (cb : Cal) (K : Nat → Option D) (a : List E) (e : Nv) (Q : Bool → Nv → Prop) (X : PX) : Prop where
  h : wR (denT cb K a e) Q X
structure WI (cb : Cal) (K : Nat → Option D) (a : E) (e : Nv) (Q : List D → List Nat → Nv → Prop) (X : PX) : Prop where
  h : wR (denI cb K a e) (fun p => Q p.1 p.2) X
structure WF (cb : Cal) (K : Nat → Option D) (a : List E) (e : Nv) (Q : List VL → Nv → Prop) (X : PX) : Prop where
  h : wR (denF cb K a e) Q X
structure WO (cb : Cal) (K : Nat → Option D) (a : Option E) (e : Nv) (Q : Option Int → Nv → Prop) (X : PX) : Prop where
  h : wR (denO cb K a e) Q X
/-- a call -/
structure Cs (cb : Cal) (f : Nat) (ds : List D) (r : CR) : Prop where
  h : cb f ds = r
structure ClQ (cb : Cal) (f : Nat) (ds : List D) (k : VL → D → Prop) (x : Nat → D → D → Prop) : Prop where
  h : match cb f ds with
    | .ok fr r io => k (rof (fr, r)) io
    | .exc c v io => x c v io
    | .bad => False
theorem ClQ.fz {cb : Cal} {f : Nat} {ds : List D} {k : VL → D → Prop} {x : Nat → D → D → Prop} {r io : D} (c : Cs cb f ds (.ok false r io)) (h : k (.fz r) io) : ClQ cb f ds k x := ⟨by rw [c.h]; exact h⟩
theorem ClQ.fr {cb : Cal} {f : Nat} {ds : List D} {k : VL → D → Prop} {x : Nat → D → D → Prop} {r io : D} (c : Cs cb f ds (.ok true r io)) (h : k (.fr r) io) : ClQ cb f ds k x := ⟨by rw [c.h]; exact h⟩
theorem ClQ.exc {cb : Cal} {f : Nat} {ds : List D} {k : VL → D → Prop} {x : Nat → D → D → Prop} {c : Nat} {v io : D} (q : Cs cb f ds (.exc c v io)) (h : x c v io) : ClQ cb f ds k x := ⟨by rw [q.h]; exact h⟩
/-- turns of a comprehension -/
structure LcQ (cb : Cal) (K : Nat → Option D) (x : E) (vs : List Nat) (t : T) (ts : List E) (its acc : List D) (e : Nv) (Q : List D → Nv → Prop) : Prop where
  h : wR (lcGo vs t (fun e2 => (denT cb K ts e2).bind fun b e3 => if b then (den cb K x e3).bind fun v e4 => (match fzv e4 v with
        | some (d, e5) => .ok (some d) e5
        | none => .bad) else .ok none e3) its acc e) Q fun _ _ _ => False
/-- turns of a dict comprehension -/
structure DcQ (cb : Cal) (K : Nat → Option D) (k x : E) (vs : List Nat) (t : T) (ts : List E) (its : List D) (acc : List (L2.Key × D)) (e : Nv) (Q : List (L2.Key × D) → Nv → Prop) : Prop where
  h : wR (dcGo vs t (fun e2 => (denT cb K ts e2).bind fun b e3 => if b then (den cb K k e3).bind fun vk e4 => (match (lkv e4 vk).bind keyD with
        | some q => (den cb K x e4).bind fun v e5 => (match fzv e5 v with
          | some (d, e6) => .ok (some (q, d)) e6
          | none => .bad)
        | none => .bad) else .ok none e3) its acc e) Q fun _ _ _ => False
structure KyQ (d : D) (k : L2.Key → Prop) : Prop where
  h : ∃ q, keyD d = some q ∧ k q
theorem KyQ.i {i : Int} {k : L2.Key → Prop} (h : k (.inl i)) : KyQ (.int i) k := ⟨_, rfl, h⟩
theorem KyQ.s {x : Str} {k : L2.Key → Prop} (h : k (.inr x)) : KyQ (.str x) k := ⟨_, rfl, h⟩
structure UnQ (e : Nv) (ls : List Nat) (k : Nv → Prop) : Prop where
  h : ∃ e', unlock e ls = some e' ∧ k e'
theorem UnQ.nil {e : Nv} {k : Nv → Prop} (h : k e) : UnQ e [] k := ⟨e, rfl, h⟩
theorem UnQ.cons {e e1 : Nv} {i : Nat} {ls : List Nat} {d : D} {k : Nv → Prop} (n : Nth e i (some (.lk, d))) (s : Setr e i (some (.ow, d)) e1) (h : UnQ e1 ls k) : UnQ e (i :: ls) k := by
  obtain ⟨e', h1, h2⟩ := h
  exact ⟨e', by simp only [unlock, n.h, s.h, h1], h2⟩
theorem UnQ.napp {e : Nv} {ls : List Nat} {k : Nv → Prop} (h : UnQ e ls k) : UnQ e ([] ++ ls) k := h
theorem UnQ.capp {e : Nv} {i : Nat} {ls ms : List Nat} {k : Nv → Prop} (h : UnQ e (i :: (ls ++ ms)) k) : UnQ e (i :: ls ++ ms) k := h
/-- behind a comprehension: the block's slots as they were, the locks off -/
structure BkQ (e e2 : Nv) (vs ls : List Nat) (k : Nv → Prop) : Prop where
  h : ∃ e', unlock (backN e e2 vs) ls = some e' ∧ k e'
structure WpQ (e : Nv) (vs : List Nat) (k : Nv → Prop) : Prop where
  h : k (wipeN e vs)
theorem WpQ.nil {e : Nv} {k : Nv → Prop} (h : k e) : WpQ e [] k := ⟨h⟩
theorem wipeN_set : ∀ (vs : List Nat) (e : Nv) (i : Nat), wipeN (e.set i none) vs = (wipeN e vs).set i none
  | [], e, i => rfl
  | v :: vs, e, i => by
    simp only [wipeN, wipeN_set vs]
    by_cases h : v = i
    · subst h; rfl
    · rw [List.set_comm _ _ (Ne.symm h)]
theorem WpQ.cons {e e1 : Nv} {v : Nat} {vs : List Nat} {k : Nv → Prop} (s : Setr e v none e1) (h : WpQ e1 vs k) : WpQ e (v :: vs) k := ⟨by
  have := h.h
  rw [← s.h, wipeN_set] at this
  exact this⟩
theorem BkQ.nil {e e2 : Nv} {ls : List Nat} {k : Nv → Prop} (h : UnQ e2 ls k) : BkQ e e2 [] ls k := ⟨h.h⟩
theorem backN_set (e : Nv) : ∀ (vs : List Nat) (e2 : Nv) (i : Nat), backN e (e2.set i ((e[i]?).getD none)) vs = (backN e e2 vs).set i ((e[i]?).getD none)
  | [], e2, i => rfl
  | v :: vs, e2, i => by
    simp only [backN, backN_set e vs]
    by_cases h : v = i
    · subst h; rfl
    · rw [List.set_comm _ _ (Ne.symm h)]
theorem BkQ.cons {e e2 e3 : Nv} {s : Slot} {v : Nat} {vs ls : List Nat} {k : Nv → Prop} (n : Nth e v s) (c : Setr e2 v s e3) (h : BkQ e e3 vs ls k) : BkQ e e2 (v :: vs) ls k := ⟨by
  have := h.h
  rw [← c.h] at this
  have q : s = (e[v]?).getD none := by rw [n.h]; rfl
  rw [q, backN_set] at this
  exact this⟩
section
variable {cb : Cal} {K : Nat → Option D} {e : Nv} {Q : VL → Nv → Prop} {X : PX} {a b c : E} {as : List E}
theorem WE.non (h : Q (.fz .non) e) : WE cb K .non e Q X := ⟨h⟩
theorem WE.bl {p : Bool} (h : Q (.fz (.bl p)) e) : WE cb K (.bl p) e Q X := ⟨h⟩
theorem WE.int {i : Int} (h : Q (.fz (.int i)) e) : WE cb K (.int i) e Q X := ⟨h⟩
theorem WE.dn (h : Q (.fr (.dct [])) e) : WE cb K .dn e Q X := ⟨h⟩
theorem WE.str {x : Str} (h : Q (.fz (.str x)) e) : WE cb K (.str x) e Q X := ⟨h⟩
theorem WE.fnv {f : Nat} (h : Q (.fz (.fn f)) e) : WE cb K (.fnv f) e Q X := ⟨h⟩
theorem WE.var {i : Nat} {s : Slot} (n : Nth e i s) (h : VaQ s i e Q) : WE cb K (.var i) e Q X := ⟨by
  have h := h.h
  simp only [den, n.h]
  cases s with
  | none => exact h.elim
  | some p =>
    obtain ⟨fl, d⟩ := p
    cases fl <;> exact h⟩
theorem WE.glb {g : Nat} {d : D} (n : K g = some d) (h : Q (.fz d) e) : WE cb K (.glb g) e Q X := ⟨by simp only [den, n, wR]; exact h⟩
theorem WE.tup (h : WL cb K as e (fun vs e1 => FzLQ e1 vs fun ds e2 => LimQ ds.length (Q (.fz (.tup ds)) e2)) X) : WE cb K (.tup as) e Q X := ⟨by
  rw [den, wR_bind]
  refine wR_imp h.h fun vs e1 ⟨ds, e2, h1, h2, h3⟩ => ?_
  simp only [h1, h2, if_true]
  exact h3⟩
theorem WE.lst (h : WL cb K as e (fun vs e1 => FzLQ e1 vs fun ds e2 => LimQ ds.length (Q (.fr (.lst ds)) e2)) X) : WE cb K (.lst as) e Q X := ⟨by
  rw [den, wR_bind]
  refine wR_imp h.h fun vs e1 ⟨ds, e2, h1, h2, h3⟩ => ?_
  simp only [h1, h2, if_true]
  exact h3⟩
theorem WE.bin {op : Bop} (h : WE cb K a e (fun va e1 => WE cb K b e1 (fun vb e2 => LkQ e2 va fun x => LkQ e2 vb fun y => BinQ op x y fun v => Q v e2) X) X) : WE cb K (.bin op a b) e Q X := ⟨by
  rw [den, wR_bind]
  refine wR_imp h.h fun va e1 ⟨h⟩ => ?_
  rw [wR_bind]
  refine wR_imp h fun vb e2 ⟨x, h1, y, h2, p, h3, h4⟩ => ?_
  simp only [h1, h2, h3]
  exact h4⟩
theorem WE.neg (h : WE cb K a e (fun va e1 => LkQ e1 va fun x => InQ x fun i => Q (.fz (.int (-i))) e1) X) : WE cb K (.neg a) e Q X := ⟨by
  rw [den, wR_bind]
  refine wR_imp h.h fun va e1 ⟨x, h1, i, h2, h3⟩ => ?_
  subst h2
  simp only [intV, h1]
  exact h3⟩
theorem WE.cmp {op : Cop} (h : WE cb K a e (fun va e1 => WE cb K b e1 (fun vb e2 => LkQ e2 va fun x => LkQ e2 vb fun y => CmpQ op x y fun p => Q (.fz (.bl p)) e2) X) X) : WE cb K (.cmp op a b) e Q X := ⟨by
  rw [den, wR_bind]
  refine wR_imp h.h fun va e1 ⟨h⟩ => ?_
  rw [wR_bind]
  refine wR_imp h fun vb e2 ⟨x, h1, y, h2, p, h3, h4⟩ => ?_
  simp only [h1, h2, h3]
  exact h4⟩
theorem WE.chn {o1 o2 : Cop} (h : WE cb K a e (fun va e1 => WE cb K b e1 (fun vb e2 => LkQ e2 va fun x => LkQ e2 vb fun y => CmpQ o1 x y fun p => IfQ p (WE cb K c e2 (fun vc e3 => LkQ e3 vb fun y => LkQ e3 vc fun z => CmpQ o2 y z fun q => Q (.fz (.bl q)) e3) X) (Q (.fz (.bl false)) e2)) X) X) : WE cb K (.chn o1 o2 a b c) e Q X := ⟨by
  rw [den, wR_bind]
  refine wR_imp h.h fun va e1 ⟨h⟩ => ?_
  rw [wR_bind]
  refine wR_imp h fun vb e2 ⟨x, h1, y, h2, p, h3, h4, h5⟩ => ?_
  simp only [h1, h2, h3]
  cases p with
  | false => exact h5 rfl
  | true =>
    simp only []
    rw [wR_bind]
    refine wR_imp (h4 rfl).h fun vc e3 ⟨y, k1, z, k2, q, k3, k4⟩ => ?_
    simp only [k1, k2, k3]
    exact k4⟩
theorem WE.and (h : WE cb K a e (fun va e1 => LkQ e1 va fun x => BoQ x fun p => IfQ p (WE cb K b e1 Q X) (Q (.fz (.bl false)) e1)) X) : WE cb K (.and a b) e Q X := ⟨by
  rw [den, wR_bind]
  refine wR_imp h.h fun va e1 ⟨x, h1, p, h2, h3, h4⟩ => ?_
  subst h2
  simp only [boolV, h1]
  cases p with
  | false => exact h4 rfl
  | true => exact (h3 rfl).h⟩
theorem WE.or (h : WE cb K a e (fun va e1 => LkQ e1 va fun x => BoQ x fun p => IfQ p (Q (.fz (.bl true)) e1) (WE cb K b e1 Q X)) X) : WE cb K (.or a b) e Q X := ⟨by
  rw [den, wR_bind]
  refine wR_imp h.h fun va e1 ⟨x, h1, p, h2, h3, h4⟩ => ?_
  subst h2
  simp only [boolV, h1]
  cases p with
  | false => exact (h4 rfl).h
  | true => exact h3 rfl⟩
theorem WE.not (h : WE cb K a e (fun va e1 => LkQ e1 va fun x => BoQ x fun p => Q (.fz (.bl (!p))) e1) X) : WE cb K (.not a) e Q X := ⟨by
  rw [den, wR_bind]
  refine wR_imp h.h fun va e1 ⟨x, h1, p, h2, h3⟩ => ?_
  subst h2
  simp only [boolV, h1]
  exact h3⟩
theorem WE.ife (h : WE cb K c e (fun va e1 => LkQ e1 va fun x => BoQ x fun p => IfQ p (WE cb K a e1 Q X) (WE cb K b e1 Q X)) X) : WE cb K (.ife c a b) e Q X := ⟨by
  rw [den, wR_bind]
  refine wR_imp h.h fun va e1 ⟨x, h1, p, h2, h3, h4⟩ => ?_
  subst h2
  simp only [boolV, h1]
  cases p with
  | false => exact (h4 rfl).h
  | true => exact (h3 rfl).h⟩
theorem WE.idx (h : WE cb K a e (fun va e1 => WE cb K b e1 (fun vb e2 => LkQ e2 va fun x => LkQ e2 vb fun y => IxQ x y fun d => Q (.fz d) e2) X) X) : WE cb K (.idx a b) e Q X := ⟨by
  rw [den, wR_bind]
  refine wR_imp h.h fun va e1 ⟨h⟩ => ?_
  rw [wR_bind]
  refine wR_imp h fun vb e2 ⟨x, h1, y, h2, p, h3, h4⟩ => ?_
  simp only [h1, h2, h3]
  exact h4⟩
theorem WO.non {Q : Option Int → Nv → Prop} (h : Q none e) : WO cb K none e Q X := ⟨h⟩
theorem WO.som {Q : Option Int → Nv → Prop} (h : WE cb K a e (fun va e1 => LkQ e1 va fun x => InQ x fun i => Q (some i) e1) X) : WO cb K (some a) e Q X := ⟨by
  rw [denO, wR_bind]
  refine wR_imp h.h fun va e1 ⟨x, h1, p, h2, h3⟩ => ?_
  subst h2
  simp only [intV, h1]
  exact h3⟩
theorem WE.slc {lo hi : Option E} (h : WE cb K a e (fun va e1 => WO cb K lo e1 (fun l e2 => WO cb K hi e2 (fun r e3 => LkQ e3 va fun x => SlQ x l r fun v => Q v e3) X) X) X) : WE cb K (.slc a lo hi) e Q X := ⟨by
  rw [den, wR_bind]
  refine wR_imp h.h fun va e1 ⟨h⟩ => ?_
  rw [wR_bind]
  refine wR_imp h fun l e2 ⟨h⟩ => ?_
  rw [wR_bind]
  refine wR_imp h fun r e3 ⟨x, h1, p, h2, h3⟩ => ?_
  simp only [h1, h2]
  exact h3⟩
theorem WE.rev (h : WE cb K a e (fun va e1 => LkQ e1 va fun x => RvQ x fun v => Q v e1) X) : WE cb K (.rev a) e Q X := ⟨by
  rw [den, wR_bind]
  refine wR_imp h.h fun va e1 ⟨x, h1, p, h2, h3⟩ => ?_
  simp only [h1, h2]
  exact h3⟩
structure LksQ (e : Nv) (vs : List VL) (k : List D → Prop) : Prop where
  h : ∃ ds, vs.mapM (lkv e) = some ds ∧ k ds
theorem LksQ.nil {e : Nv} {k : List D → Prop} (h : k []) : LksQ e [] k := ⟨_, rfl, h⟩
theorem LksQ.cons {e : Nv} {v : VL} {vs : List VL} {k : List D → Prop} (h : LkQ e v fun d => LksQ e vs fun ds => k (d :: ds)) : LksQ e (v :: vs) k := by
  obtain ⟨d, h1, ds, h2, h3⟩ := h
  exact ⟨_, by rw [List.mapM_cons, h1, h2]; rfl, h3⟩
theorem WE.blt {f : Blt} (h : WL cb K as e (fun vs e1 => LksQ e1 vs fun ds => BlQ f ds fun v => Q v e1) X) : WE cb K (.blt f as) e Q X := ⟨by
  rw [den, wR_bind]
  refine wR_imp h.h fun va e1 ⟨x, h1, p, h2, h3⟩ => ?_
  simp only [h1, h2]
  exact h3⟩
theorem WE.call {f : Nat} (h : WL cb K as e (fun vs e1 => FzLQ e1 vs fun ds e2 => ClQ cb f ds (fun v _ => Q v e2) fun c v _ => X c v e2) X) : WE cb K (.call f none as) e Q X := ⟨by
  rw [den, wR_bind]
  refine wR_imp h.h fun vs e1 ⟨ds, e2, h1, h⟩ => ?_
  have h := h.h
  simp only [h1]
  generalize cb f ds = r at h ⊢
  cases r <;> exact h⟩
/-- what is handed in to be changed -/
structure OwQ (e : Nv) (i : Nat) (k : Fl → D → Prop) : Prop where
  h : ∃ fl d, ownB e i = some (fl, d) ∧ k fl d
theorem OwQ.ow {i : Nat} {d : D} {k : Fl → D → Prop} (n : Nth e i (some (.ow, d))) (h : k .ow d) : OwQ e i k := ⟨_, _, by simp only [ownB, n.h], h⟩
theorem OwQ.io {i : Nat} {d : D} {k : Fl → D → Prop} (n : Nth e i (some (.io, d))) (h : k .io d) : OwQ e i k := ⟨_, _, by simp only [ownB, n.h], h⟩
structure LstQ (d : D) (k : List D → Prop) : Prop where
  h : ∃ xs, d = .lst xs ∧ k xs
theorem LstQ.mk' {xs : List D} {k : List D → Prop} (h : k xs) : LstQ (.lst xs) k := ⟨_, rfl, h⟩
structure PutQ (e : Nv) (i : Nat) (s : Slot) (k : Nv → Prop) : Prop where
  h : k (e.set i s)
theorem PutQ.mk' {i : Nat} {s : Slot} {e' : Nv} {k : Nv → Prop} (c : Setr e i s e') (h : k e') : PutQ e i s k := ⟨by rw [c.h]; exact h⟩
theorem WE.callI {f i : Nat} (h : OwQ e i fun _ _ => WL cb K as e (fun vs e1 => FzLQ e1 vs fun ds e2 => OwQ e2 i fun fl d => LstQ d fun xs => ClQ cb f (.lst xs :: ds) (fun v d' => PutQ e2 i (some (fl, d')) fun e3 => Q v e3) fun _ _ _ => False) X) : WE cb K (.call f (some i) as) e Q X := ⟨by
  obtain ⟨_, _, h0, h⟩ := h
  rw [den]
  simp only [h0, Option.isSome_some, if_true]
  rw [wR_bind]
  refine wR_imp h.h fun vs e1 ⟨ds, e2, h1, fl, d, h2, xs, h3, h⟩ => ?_
  subst h3
  have h := h.h
  simp only [h1, h2]
  generalize cb f (.lst xs :: ds) = r at h ⊢
  cases r with
  | ok fr r io => exact h.h
  | exc _ _ _ => exact h
  | bad => exact h⟩
/-- what is lent to a call -/
structure LnvQ (e : Nv) (i : Nat) (v : VL) (k : D → Prop) : Prop where
  h : ∃ d, lnV e i v = some d ∧ k d
structure LnpQ (s : Slot) (i j : Nat) (k : D → Prop) : Prop where
  h : match s with
    | some (.ow, .lst xs) => j ≠ i ∧ k (.lst xs)
    | some (.sh, d) => k d
    | _ => False
theorem LnvQ.fz {i : Nat} {d : D} {k : D → Prop} (h : k d) : LnvQ e i (.fz d) k := ⟨d, rfl, h⟩
theorem LnvQ.pk {i j : Nat} {s : Slot} {k : D → Prop} (n : Nth e j s) (h : LnpQ s i j k) : LnvQ e i (.pk j) k := ⟨by
  have h := h.h
  split at h
  · exact ⟨_, by simp only [lnV, n.h]; rw [if_neg h.1], h.2⟩
  · exact ⟨_, by simp only [lnV, n.h], h⟩
  · exact h.elim⟩
theorem LnpQ.ow {i j : Nat} {xs : List D} {k : D → Prop} (n : j ≠ i) (h : k (.lst xs)) : LnpQ (some (.ow, .lst xs)) i j k := ⟨⟨n, h⟩⟩
theorem LnpQ.sh {i j : Nat} {d : D} {k : D → Prop} (h : k d) : LnpQ (some (.sh, d)) i j k := ⟨h⟩
structure LnQ (e : Nv) (i : Nat) (vs : List VL) (k : List D → Prop) : Prop where
  h : ∃ ds, vs.mapM (lnV e i) = some ds ∧ k ds
theorem LnQ.nil {i : Nat} {k : List D → Prop} (h : k []) : LnQ e i [] k := ⟨_, rfl, h⟩
theorem LnQ.cons {i : Nat} {v : VL} {vs : List VL} {k : List D → Prop} (h : LnvQ e i v fun d => LnQ e i vs fun ds => k (d :: ds)) : LnQ e i (v :: vs) k := by
  obtain ⟨d, h1, ds, h2, h3⟩ := h
  exact ⟨_, by rw [List.mapM_cons, h1, h2]; rfl, h3⟩
structure FlQ (v : VL) (d : D) (k : D → List D → Prop) : Prop where
  h : ∃ r ys, v = .fz r ∧ d = .lst ys ∧ (flatD r && flatL ys) = true ∧ k r ys
theorem FlQ.mk' {r : D} {ys : List D} {k : D → List D → Prop} (c : flatD r = true) (c' : flatL ys = true) (h : k r ys) : FlQ (.fz r) (.lst ys) k := ⟨_, _, rfl, rfl, by rw [c, c']; rfl, h⟩
theorem WE.callL {f i : Nat} (h : OwQ e i fun _ _ => WL cb K as e (fun vs e1 => LnQ e1 i vs fun ds => OwQ e1 i fun fl d => LstQ d fun xs => ClQ cb f (.lst xs :: ds) (fun v d' => FlQ v d' fun r ys => PutQ e1 i (some (fl, .lst ys)) fun e3 => Q (.fz r) e3) fun _ _ _ => False) X) : WE cb K (.callL f i as) e Q X := ⟨by
  obtain ⟨_, _, h0, h⟩ := h
  rw [den]
  simp only [h0, Option.isSome_some, if_true]
  rw [wR_bind]
  refine wR_imp h.h fun vs e1 ⟨ds, h1, fl, d, h2, xs, h3, h⟩ => ?_
  subst h3
  have h := h.h
  simp only [h1, h2]
  generalize cb f (.lst xs :: ds) = r at h ⊢
  cases r with
  | ok fr r io =>
    obtain ⟨r', ys, h4, rfl, h5, h6⟩ := h
    cases fr with
    | false =>
      cases h4
      simp only [h5, if_true]
      exact h6.h
    | true => cases h4
  | exc _ _ _ => exact h
  | bad => exact h⟩
structure FrLQ (v : VL) (k : List D → Prop) : Prop where
  h : ∃ xs, v = .fr (.lst xs) ∧ k xs
theorem FrLQ.mk' {xs : List D} {k : List D → Prop} (h : k xs) : FrLQ (.fr (.lst xs)) k := ⟨_, rfl, h⟩
theorem WE.callF {f : Nat} (h : WE cb K a e (fun va e1 => FrLQ va fun xs => ClQ cb f [.lst xs] (fun v _ => Q v e1) fun _ _ _ => False) X) : WE cb K (.callF f a) e Q X := ⟨by
  rw [den, wR_bind]
  refine wR_imp h.h fun va e1 ⟨xs, h1, h⟩ => ?_
  subst h1
  have h := h.h
  simp only
  generalize cb f [.lst xs] = r at h ⊢
  cases r with
  | ok fr r io => exact h
  | exc _ _ _ => exact h
  | bad => exact h⟩
theorem WE.new {c f : Nat} (h : WL cb K as e (fun vs e1 => FzLQ e1 vs fun ds e2 => ClQ cb f (.obj c [] :: ds) (fun v d => v = .fz .non ∧ Q (.fz d) e2) fun c v _ => X c v e2) X) : WE cb K (.new c f as) e Q X := ⟨by
  rw [den, wR_bind]
  refine wR_imp h.h fun vs e1 ⟨ds, e2, h1, h⟩ => ?_
  have h := h.h
  simp only [h1]
  generalize cb f (.obj c [] :: ds) = r at h ⊢
  cases r with
  | ok fr r io =>
    obtain ⟨h2, h3⟩ := h
    cases fr with
    | true => cases h2
    | false => cases h2; exact h3
  | exc _ _ _ => exact h
  | bad => exact h⟩
structure FldQ (d : D) (c k : Nat) (q : D → Prop) : Prop where
  h : ∃ fs x, d = .obj c fs ∧ fs[k]? = some (some x) ∧ q x
theorem FldQ.mk' {c k : Nat} {fs : List (Option D)} {x : D} {q : D → Prop} (h : fs[k]? = some (some x)) (hq : q x) : FldQ (.obj c fs) c k q := ⟨fs, x, rfl, h, hq⟩
theorem WE.fld {c k : Nat} (h : WE cb K a e (fun va e1 => LkQ e1 va fun x => FldQ x c k fun d => Q (.fz d) e1) X) : WE cb K (.fld a c k) e Q X := ⟨by
  rw [den, wR_bind]
  refine wR_imp h.h fun va e1 ⟨x, h1, fs, d, h2, h3, h4⟩ => ?_
  subst h2
  simp only [h1, if_true, h3]
  exact h4⟩
theorem WE.prop {c f : Nat} (h : WE cb K a e (fun va e1 => ∃ fs, va = .fz (.obj c fs) ∧ ClQ cb f [.obj c fs] (fun v _ => Q v e1) fun _ _ _ => False) X) : WE cb K (.prop a c f) e Q X := ⟨by
  rw [den, wR_bind]
  refine wR_imp h.h fun va e1 ⟨fs, h1, h⟩ => ?_
  subst h1
  have h := h.h
  simp only [if_true]
  generalize cb f [.obj c fs] = r at h ⊢
  cases r <;> exact h⟩
theorem WE.pop {i : Nat} {xs : List D} {d : D} (n : Nth e i (some (.ow, .lst (xs ++ [d])))) (h : PutQ e i (some (.ow, .lst xs)) fun e1 => Q (.fz d) e1) : WE cb K (.pop i none) e Q X := ⟨by
  have h := h.h
  rw [den]
  simp only [n.h, List.length_append, List.length_cons, List.length_nil, Nat.zero_add, Nat.add_sub_cancel, List.dropLast_concat]
  rw [List.getElem?_append_right (Nat.le_refl _), Nat.sub_self]
  exact h⟩
theorem WE.popA {i : Nat} (h : OwQ e i fun _ d => LstQ d fun _ => WE cb K a e (fun va e1 => OwQ e1 i fun fl d => fl = .ow ∧ LstQ d fun xs => LkQ e1 va fun x => InQ x fun k => 0 ≤ k ∧ k < 9223372036854775808 ∧ Op xs[k.toNat]? fun d => PutQ e1 i (some (.ow, .lst (xs.eraseIdx k.toNat))) fun e2 => Q (.fz d) e2) X) (ho : isOwL e i = true) : WE cb K (.pop i (some a)) e Q X := ⟨by
  obtain ⟨_, _, _, _, _, h⟩ := h
  rw [den, if_pos ho, wR_bind]
  refine wR_imp h.h fun va e1 ⟨fl, d, h1, h2, xs, h3, x, h4, k, h5, h6, h7, y, h8, h9⟩ => ?_
  subst h2 h3 h5
  have h1 : e1[i]? = some (some (.ow, .lst xs)) := by
    unfold ownB at h1
    split at h1 <;> cases h1 <;> assumption
  simp only [h1, intV, h4, h6, h7, h8, and_self, if_true]
  exact h9.h⟩
theorem WE.app {i : Nat} (ho : isOwL e i = true) (h : WE cb K a e (fun va e1 => FzQ e1 va fun d e2 => OwQ e2 i fun fl l => fl = .ow ∧ LstQ l fun xs => LtmQ xs.length (PutQ e2 i (some (.ow, .lst (xs ++ [d]))) fun e3 => Q (.fz .non) e3)) X) : WE cb K (.app i a) e Q X := ⟨by
  rw [den, if_pos ho, wR_bind]
  refine wR_imp h.h fun va e1 ⟨d, e2, h1, fl, l, h2, h3, xs, h4, h5, h6⟩ => ?_
  subst h3 h4
  have h2 : e2[i]? = some (some (.ow, .lst xs)) := by
    unfold ownB at h2
    split at h2 <;> cases h2 <;> assumption
  simp only [h1, h2, h5, if_true]
  exact h6.h⟩
theorem WE.get {kk dd : E} (h : WE cb K a e (fun va e1 => LkQ e1 va fun x => ∃ kvs, x = .dct kvs ∧ WE cb K kk e1 (fun vk e2 => WE cb K dd e2 (fun vd e3 => LkQ e3 va fun x => ∃ kvs, x = .dct kvs ∧ LkQ e3 vk fun y => FzQ e3 vd fun z e4 => Op (keyD y) fun q => Q (.fz ((getK kvs q).getD z)) e4) X) X) X) : WE cb K (.get a kk dd) e Q X := ⟨by
  rw [den, wR_bind]
  refine wR_imp h.h fun va e1 ⟨x, h1, kvs, h2, ⟨h⟩⟩ => ?_
  subst h2
  simp only [isDct, h1, if_true]
  rw [wR_bind]
  refine wR_imp h fun vk e2 ⟨h⟩ => ?_
  rw [wR_bind]
  refine wR_imp h fun vd e3 ⟨x, h1, kvs, h2, y, h3, z, e4, h4, q, h5, h6⟩ => ?_
  subst h2
  simp only [h1, h3, h4, h5]
  exact h6⟩
structure RngQ (i j st : Int) (k : List D → Prop) : Prop where
  h : ∃ ds, rngV i j st = some ds ∧ k ds
/-- the turns of a comprehension of two clauses -/
structure Lc2Q (cb : Cal) (K : Nat → Option D) (x : E) (vs : List Nat) (t : T) (ts : List E) (vs1 : List Nat) (t1 : T) (src1 : E) (ts1 : List E) (its acc : List D) (e : Nv) (Q : List D → Nv → Prop) : Prop where
  h : wR (lc2Go vs t (fun acc e2 => (denT cb K ts e2).bind fun b e3 => if b then (denI cb K src1 e3).bind fun (its1, ls1) e4 => if noOwn e4 vs1 then
          (lcGo vs1 t1 (fun e2 => (denT cb K ts1 e2).bind fun b e3 => if b then (den cb K x e3).bind fun v e4 => (match fzv e4 v with
            | some (d, e5) => .ok (some d) e5
            | none => .bad) else .ok none e3) its1 acc (wipeN e4 vs1)).bind fun ds e9 => (match unlock (backN e4 e9 vs1) ls1 with
              | some e10 => .ok ds e10
              | none => .bad)
          else .bad else .ok acc e3) its acc e) Q fun _ _ _ => False
theorem WE.lc2 {x : E} {vs vs1 : List Nat} {t t1 : T} {src src1 : E} {ts ts1 : List E} (h : WI cb K src e (fun its ls e1 => NoQ e1 vs (WpQ e1 vs fun e2 => Lc2Q cb K x vs t ts vs1 t1 src1 ts1 its [] e2 fun ds e6 => BkQ e1 e6 vs ls fun e7 => Q (.fr (.lst ds)) e7)) X) : WE cb K (.lc2 x vs t src ts vs1 t1 src1 ts1) e Q X := ⟨by
  rw [den, wR_bind]
  refine wR_imp h.h fun p e1 ⟨h1, ⟨h⟩⟩ => ?_
  obtain ⟨its, ls⟩ := p
  simp only [h1, if_true]
  rw [wR_bind]
  have h := h.h
  generalize lc2Go _ _ _ _ _ _ = r at h ⊢
  cases r with
  | ok ds e6 =>
    obtain ⟨e7, h2, h3⟩ := h
    simp only [wR, h2] at h3 ⊢
    exact h3
  | exc c d e => exact h.elim
  | bad => exact h.elim⟩
theorem WE.ext {i : Nat} (ho : isOwL e i = true) (h : WE cb K a e (fun va e1 => LkQ e1 va fun x => OwQ e1 i fun fl l => fl = .ow ∧ LstQ x fun ys => LstQ l fun xs => LimQ (xs.length + ys.length) (PutQ e1 i (some (.ow, .lst (xs ++ ys))) fun e3 => Q (.fz .non) e3)) X) : WE cb K (.ext i a) e Q X := ⟨by
  rw [den, if_pos ho, wR_bind]
  refine wR_imp h.h fun va e1 ⟨x, h1, fl, l, h2, h3, ys, h4, xs, h5, h6, h7⟩ => ?_
  subst h3 h4 h5
  have h2 : e1[i]? = some (some (.ow, .lst xs)) := by
    unfold ownB at h2
    split at h2 <;> cases h2 <;> assumption
  simp only [h1, h2, h6, if_true]
  exact h7.h⟩
theorem WE.lrg {tp : Bool} (h : WE cb K a e (fun va e1 => WE cb K b e1 (fun vb e2 => LkQ e2 va fun x => LkQ e2 vb fun y => InQ x fun i => InQ y fun j => RngQ i j 1 fun ds => LimQ ds.length (Q (if tp then .fz (.tup ds) else .fr (.lst ds)) e2)) X) X) : WE cb K (.lrg tp a b) e Q X := ⟨by
  rw [den, wR_bind]
  refine wR_imp h.h fun va e1 ⟨h⟩ => ?_
  rw [wR_bind]
  refine wR_imp h fun vb e2 ⟨x, h1, y, h2, i, h3, j, h4, ds, h5, h6, h7⟩ => ?_
  subst h3 h4
  simp only [intV, h1, h2, h5, h6, if_true]
  exact h7⟩
theorem WE.lrgF (h : WE cb K a e (fun va e1 => WE cb K b e1 (fun vb e2 => LkQ e2 va fun x => LkQ e2 vb fun y => InQ x fun i => InQ y fun j => RngQ i j 1 fun ds => LimQ ds.length (Q (.fr (.lst ds)) e2)) X) X) : WE cb K (.lrg false a b) e Q X := WE.lrg h
theorem WE.lrgT (h : WE cb K a e (fun va e1 => WE cb K b e1 (fun vb e2 => LkQ e2 va fun x => LkQ e2 vb fun y => InQ x fun i => InQ y fun j => RngQ i j 1 fun ds => LimQ ds.length (Q (.fz (.tup ds)) e2)) X) X) : WE cb K (.lrg true a b) e Q X := WE.lrg h
theorem WE.lc {x : E} {vs : List Nat} {t : T} {src : E} {ts : List E} (h : WI cb K src e (fun its ls e1 => NoQ e1 vs (WpQ e1 vs fun e2 => LcQ cb K x vs t ts its [] e2 fun ds e6 => BkQ e1 e6 vs ls fun e7 => Q (.fr (.lst ds)) e7)) X) : WE cb K (.lc x vs t src ts) e Q X := ⟨by
  rw [den, wR_bind]
  refine wR_imp h.h fun p e1 ⟨h1, ⟨h⟩⟩ => ?_
  obtain ⟨its, ls⟩ := p
  simp only [h1, if_true]
  rw [wR_bind]
  have h := h.h
  generalize lcGo _ _ _ _ _ _ = r at h ⊢
  cases r with
  | ok ds e6 =>
    obtain ⟨e7, h2, h3⟩ := h
    simp only [wR, h2] at h3 ⊢
    exact h3
  | exc c d e => exact h.elim
  | bad => exact h.elim⟩
theorem WE.dc {k x : E} {vs : List Nat} {t : T} {src : E} {ts : List E} (h : WI cb K src e (fun its ls e1 => NoQ e1 vs (WpQ e1 vs fun e2 => DcQ cb K k x vs t ts its [] e2 fun ds e6 => BkQ e1 e6 vs ls fun e7 => Q (.fr (.dct ds)) e7)) X) : WE cb K (.dc k x vs t src ts) e Q X := ⟨by
  rw [den, wR_bind]
  refine wR_imp h.h fun p e1 ⟨h1, ⟨h⟩⟩ => ?_
  obtain ⟨its, ls⟩ := p
  simp only [h1, if_true]
  rw [wR_bind]
  have h := h.h
  generalize dcGo _ _ _ _ _ _ = r at h ⊢
  cases r with
  | ok ds e6 =>
    obtain ⟨e7, h2, h3⟩ := h
    simp only [wR, h2] at h3 ⊢
    exact h3
  | exc c d e => exact h.elim
  | bad => exact h.elim⟩
/-! lists of expressions -/
theorem WL.nil {Q : List VL → Nv → Prop} (h : Q [] e) : WL cb K [] e Q X := ⟨h⟩
theorem WL.star {Q : List VL → Nv → Prop} (h : WE cb K a e (fun v e1 => LkQ e1 v fun x => Op (seqD x) fun xs => WL cb K as e1 (fun vs e2 => Q (xs.map VL.fz ++ vs) e2) X) X) : WL cb K (.star a :: as) e Q X := ⟨by
  rw [denL, wR_bind]
  refine wR_imp h.h fun va e1 ⟨x, h1, xs, h2, ⟨h⟩⟩ => ?_
  simp only [h1, Option.bind_some, h2]
  rw [wR_bind]
  exact h⟩
def notSt : E → Bool
  | .star _ => false
  | _ => true
/-- fresh is frozen -/
structure VsQ (v : VL) (k : VL → Prop) : Prop where
  h : k v.set
theorem VsQ.fz {d : D} {k : VL → Prop} (h : k (.fz d)) : VsQ (.fz d) k := ⟨h⟩
theorem VsQ.fr {d : D} {k : VL → Prop} (h : k (.fz d)) : VsQ (.fr d) k := ⟨h⟩
theorem VsQ.pk {i : Nat} {k : VL → Prop} (h : k (.pk i)) : VsQ (.pk i) k := ⟨h⟩
theorem WL.cons {Q : List VL → Nv → Prop} (hs : notSt a = true) (h : WE cb K a e (fun v e1 => VsQ v fun v' => WL cb K as e1 (fun vs e2 => Q (v' :: vs) e2) X) X) : WL cb K (a :: as) e Q X := ⟨by
  have : denL cb K (a :: as) e = (den cb K a e).bind fun v e1 => (denL cb K as e1).bind fun vs e2 => .ok (v.set :: vs) e2 := by
    cases a <;> first | rfl | cases hs
  rw [this, wR_bind]
  refine wR_imp h.h fun va e1 ⟨⟨h⟩⟩ => ?_
  rw [wR_bind]
  exact h⟩
theorem WT.nil {Q : Bool → Nv → Prop} (h : Q true e) : WT cb K [] e Q X := ⟨h⟩
theorem WT.cons {Q : Bool → Nv → Prop} (h : WE cb K a e (fun v e1 => LkQ e1 v fun x => BoQ x fun p => IfQ p (WT cb K as e1 Q X) (Q false e1)) X) : WT cb K (a :: as) e Q X := ⟨by
  rw [denT, wR_bind]
  refine wR_imp h.h fun va e1 ⟨x, h1, p, h2, h3, h4⟩ => ?_
  subst h2
  simp only [boolV, h1]
  cases p with
  | false => exact h4 rfl
  | true => exact (h3 rfl).h⟩
/-- the items of a source -/
theorem rngL_eq : ∀ (n : Nat) (lo : Int), rngL lo 1 n = (List.range n).map fun k => .int (lo + (k : Int))
  | 0, lo => rfl
  | n + 1, lo => by
    rw [rngL, rngL_eq n, List.range_succ_eq_map, List.map_cons, List.map_map]
    congr 1
    · simp
    · apply List.map_congr_left
      intro k _
      simp only [Function.comp]
      congr 1
      omega
theorem rngL_dn : ∀ (n : Nat) (lo : Int), rngL lo (-1) n = (List.range n).map fun k => .int (lo - (k : Int))
  | 0, lo => rfl
  | n + 1, lo => by
    rw [rngL, rngL_dn n, List.range_succ_eq_map, List.map_cons, List.map_map]
    congr 1
    · simp
    · apply List.map_congr_left
      intro k _
      simp only [Function.comp]
      congr 1
      omega
theorem RngQ.up {i j : Int} {k : List D → Prop} (c : -lim62 ≤ i ∧ i < lim62 ∧ -lim62 ≤ j ∧ j < lim62) (h : k ((List.range (j - i).toNat).map fun (k : Nat) => .int (i + (k : Int)))) : RngQ i j 1 k := ⟨_, by simp only [rngV]; rw [if_pos c, if_pos trivial, rngL_eq], h⟩
theorem RngQ.up0 {j : Int} {k : List D → Prop} (c : j < lim62) (c' : -lim62 ≤ j) (h : k ((List.range j.toNat).map fun (k : Nat) => .int (k : Int))) : RngQ 0 j 1 k := RngQ.up ⟨by decide, by decide, c', c⟩ (by simpa using h)
theorem RngQ.upN {a : Nat} {j : Int} {k : List D → Prop} (c : j < lim62) (c' : -lim62 ≤ j) (c2 : (a : Int) < lim62) (h : k ((List.range (j - a).toNat).map fun (k : Nat) => .int ((a + k : Nat) : Int))) : RngQ (a : Int) j 1 k := RngQ.up ⟨Int.le_trans (show (-lim62 : Int) ≤ 0 by decide) (Int.natCast_nonneg a), c2, c', c⟩ (by simpa using h)
theorem RngQ.up1 {j : Int} {k : List D → Prop} (c : j < lim62) (c' : -lim62 ≤ j) (h : k ((List.range (j - 1).toNat).map fun (k : Nat) => .int ((k + 1 : Nat) : Int))) : RngQ 1 j 1 k := RngQ.upN (a := 1) c c' (by decide) (by
  have : (fun (k : Nat) => (D.int ((1 + k : Nat) : Int))) = fun (k : Nat) => .int ((k + 1 : Nat) : Int) := funext fun k => by rw [Nat.add_comm]
  rw [this]; exact h)
theorem RngQ.dn {i j : Int} {k : List D → Prop} (c : -lim62 ≤ i ∧ i < lim62 ∧ -lim62 ≤ j ∧ j < lim62) (h : k ((List.range (i - j).toNat).map fun (k : Nat) => .int (i - (k : Int)))) : RngQ i j (-1) k := ⟨_, by simp only [rngV]; rw [if_pos c, if_neg (by decide), if_pos trivial, rngL_dn], h⟩
theorem WI.rng {Q : List D → List Nat → Nv → Prop} {st : Int} (h : WE cb K a e (fun va e1 => WE cb K b e1 (fun vb e2 => LkQ e2 va fun x => LkQ e2 vb fun y => InQ x fun i => InQ y fun j => RngQ i j st fun ds => Q ds [] e2) X) X) : WI cb K (.rng a b st) e Q X := ⟨by
  rw [denI, wR_bind]
  refine wR_imp h.h fun va e1 ⟨h⟩ => ?_
  rw [wR_bind]
  refine wR_imp h fun vb e2 ⟨x, h1, y, h2, i, h3, j, h4, ds, h5, h6⟩ => ?_
  subst h3 h4
  simp only [intV, h1, h2, h5]
  exact h6⟩
/-- what is walked: its items; locked if it is own -/
structure WkQ (f : D → Option (List D)) (e : Nv) (v : VL) (k : List D → List Nat → Nv → Prop) : Prop where
  h : ∃ xs, walkD f e v = some xs ∧ k xs (lockV e v).2 (lockV e v).1
theorem WkQ.fz {f : D → Option (List D)} {d : D} {xs : List D} {k : List D → List Nat → Nv → Prop} (c : f d = some xs) (h : k xs [] e) : WkQ f e (.fz d) k := ⟨xs, c, h⟩
theorem WkQ.fr {f : D → Option (List D)} {d : D} {xs : List D} {k : List D → List Nat → Nv → Prop} (c : f d = some xs) (h : k xs [] e) : WkQ f e (.fr d) k := ⟨xs, c, h⟩
theorem WkQ.ow {f : D → Option (List D)} {i : Nat} {d : D} {xs : List D} {e' : Nv} {k : List D → List Nat → Nv → Prop} (n : Nth e i (some (.ow, d))) (c : f d = some xs) (s : Setr e i (some (.lk, d)) e') (h : k xs [i] e') : WkQ f e (.pk i) k := ⟨xs, by simp only [walkD, n.h]; exact c, by simp only [lockV, n.h, s.h]; exact h⟩
theorem WkQ.lk {f : D → Option (List D)} {i : Nat} {d : D} {xs : List D} {k : List D → List Nat → Nv → Prop} (n : Nth e i (some (.lk, d))) (c : f d = some xs) (h : k xs [] e) : WkQ f e (.pk i) k := ⟨xs, by simp only [walkD, n.h]; exact c, by simp only [lockV, n.h]; exact h⟩
theorem enmL_map {α : Type} {f : α → D} : ∀ (xs : List α) (n : Nat), enmL n (xs.map f) = (xs.zipIdx n).map fun p => .tup [.int (p.2 : Int), f p.1]
  | [], n => rfl
  | x :: xs, n => by
    rw [List.map_cons, enmL, enmL_map xs, List.zipIdx_cons, List.map_cons]
theorem zipL_map {α β : Type} {f : α → D} {g : β → D} : ∀ (xs : List α) (ys : List β), zipL (xs.map f) (ys.map g) = (xs.zip ys).map fun p => .tup [f p.1, g p.2]
  | [], _ => by simp [zipL]
  | _ :: _, [] => by simp [zipL]
  | x :: xs, y :: ys => by
    rw [List.map_cons, List.map_cons, zipL, zipL_map xs, List.zip_cons_cons, List.map_cons]
theorem WI.enm {Q : List D → List Nat → Nv → Prop} (h : WE cb K a e (fun va e1 => WkQ seqD e1 va fun xs ls e2 => Q (enmL 0 xs) ls e2) X) : WI cb K (.enm a) e Q X := ⟨by
  rw [denI, wR_bind]
  refine wR_imp h.h fun va e1 ⟨x, h1, h2⟩ => ?_
  simp only [h1]
  exact h2⟩
theorem WI.its {Q : List D → List Nat → Nv → Prop} (h : WE cb K a e (fun va e1 => WkQ itsD e1 va fun xs ls e2 => Q xs ls e2) X) : WI cb K (.its a) e Q X := ⟨by
  rw [denI, wR_bind]
  refine wR_imp h.h fun va e1 ⟨x, h1, h2⟩ => ?_
  simp only [h1]
  exact h2⟩
structure WkkQ (e : Nv) (v w : VL) (k : List D → List D → List Nat → Nv → Prop) : Prop where
  h : ∃ xs ys, walkD seqD e v = some xs ∧ walkD seqD e w = some ys ∧ k xs ys ((lockV (lockV e v).1 w).2 ++ (lockV e v).2) (lockV (lockV e v).1 w).1
theorem lockV_walk {f : D → Option (List D)} {v w : VL} : walkD f (lockV e v).1 w = walkD f e w := by
  unfold lockV
  split
  · rename_i i
    split
    · rename_i d hd
      cases w with
      | fz _ => rfl
      | fr _ => rfl
      | pk j =>
        simp only [walkD]
        by_cases h : i = j
        · subst h
          rw [List.getElem?_set_self (List.getElem?_eq_some_iff.mp hd).1, hd]
        · rw [List.getElem?_set_ne h]
    · rfl
  · rfl
theorem WkkQ.mk' {v w : VL} {k : List D → List D → List Nat → Nv → Prop} (h : WkQ seqD e v fun xs ls e1 => WkQ seqD e1 w fun ys ms e2 => k xs ys (ms ++ ls) e2) : WkkQ e v w k := by
  obtain ⟨xs, h1, ys, h2, h3⟩ := h
  exact ⟨xs, ys, h1, by rw [← lockV_walk (v := v)]; exact h2, h3⟩
theorem WI.zip {Q : List D → List Nat → Nv → Prop} (h : WE cb K a e (fun va e1 => WE cb K b e1 (fun vb e2 => WkkQ e2 va vb fun xs ys ls e3 => Q (zipL xs ys) ls e3) X) X) : WI cb K (.zip a b) e Q X := ⟨by
  rw [denI, wR_bind]
  refine wR_imp h.h fun va e1 ⟨h⟩ => ?_
  rw [wR_bind]
  refine wR_imp h fun vb e2 ⟨xs, ys, h1, h2, h3⟩ => ?_
  simp only [h1, h2]
  exact h3⟩
theorem WI.ezp {Q : List D → List Nat → Nv → Prop} (h : WE cb K a e (fun va e1 => WE cb K b e1 (fun vb e2 => WkkQ e2 va vb fun xs ys ls e3 => Q (enmL 0 (zipL xs ys)) ls e3) X) X) : WI cb K (.ezp a b) e Q X := ⟨by
  rw [denI, wR_bind]
  refine wR_imp h.h fun va e1 ⟨h⟩ => ?_
  rw [wR_bind]
  refine wR_imp h fun vb e2 ⟨xs, ys, h1, h2, h3⟩ => ?_
  simp only [h1, h2]
  exact h3⟩
theorem WF.nil {Q : List VL → Nv → Prop} (h : Q [] e) : WF cb K [] e Q X := ⟨h⟩
structure PfQ (e : Nv) (v : VL) (k : VL → Nv → Prop) : Prop where
  h : ∃ v' e', pkF e v = some (v', e') ∧ k v' e'
theorem PfQ.fr {d : D} {k : VL → Nv → Prop} (h : k (.fr d) e) : PfQ e (.fr d) k := ⟨_, _, rfl, h⟩
theorem PfQ.fz {d : D} {k : VL → Nv → Prop} (h : k (.fz d) e) : PfQ e (.fz d) k := ⟨_, _, rfl, h⟩
theorem PfQ.pk {i : Nat} {k : VL → Nv → Prop} (h : FzQ e (.pk i) fun d e1 => k (.fz d) e1) : PfQ e (.pk i) k := by
  obtain ⟨d, e1, h1, h2⟩ := h
  exact ⟨_, _, by simp only [pkF, h1], h2⟩
theorem WF.cons {Q : List VL → Nv → Prop} (h : WE cb K a e (fun v e1 => PfQ e1 v fun v' e2 => WF cb K as e2 (fun vs e3 => Q (v' :: vs) e3) X) X) : WF cb K (a :: as) e Q X := ⟨by
  rw [denF, wR_bind]
  refine wR_imp h.h fun va e1 ⟨v', e2, h1, ⟨h⟩⟩ => ?_
  simp only [h1]
  rw [wR_bind]
  exact h⟩
end
/-! ### statements -/
structure WB (cb : Cal) (K : Nat → Option D) (b : List S) (e : Nv) (P : SR → Prop) : Prop where
  h : P (denB cb K b e)
structure SvsQ (is : List Nat) (vs : List VL) (e : Nv) (k : Nv → Prop) : Prop where
  h : ∃ e', setVs is vs e = some e' ∧ k e'
theorem SvsQ.nil {e : Nv} {k : Nv → Prop} (h : k e) : SvsQ [] [] e k := ⟨e, rfl, h⟩
theorem SvsQ.cons {e : Nv} {i : Nat} {is : List Nat} {v : VL} {vs : List VL} {k : Nv → Prop} (h : SvQ i v e fun e1 => SvsQ is vs e1 k) : SvsQ (i :: is) (v :: vs) e k := by
  obtain ⟨e1, h1, e2, h2, h3⟩ := h
  exact ⟨e2, by simp only [setVs, h1, h2], h3⟩
/-- the turns of a loop -/
structure FoQ (cb : Cal) (K : Nat → Option D) (t : T) (b : List S) (its : List D) (e : Nv) (P : SR → Prop) : Prop where
  h : P (forGo t (denB cb K b) its e)
def whlC (cb : Cal) (K : Nat → Option D) (c : E) : Nv → R Bool := fun e => (den cb K c e).bind fun v e1 => (match boolV e1 v with
    | some q => .ok q e1
    | none => .bad)
theorem denS_whl {cb : Cal} {K : Nat → Option D} {c : E} {b : List S} {e : Nv} : denS cb K (.whl c b) e = whlGo (whlC cb K c) (denB cb K b) fuelW e := by
  rw [denS]; rfl
structure WhQ (cb : Cal) (K : Nat → Option D) (c : E) (b : List S) (n : Nat) (e : Nv) (P : SR → Prop) : Prop where
  h : P (whlGo (whlC cb K c) (denB cb K b) n e)
section
variable {cb : Cal} {K : Nat → Option D} {e : Nv} {P : SR → Prop} {a c : E} {r : List S}
/-- an exception of an expression in a statement -/
abbrev xS (P : SR → Prop) : PX := fun c d e => P (.exc c d e)
theorem toS_w {α : Type} {m : R α} {f : α → Nv → SR} {P : SR → Prop} (h : wR m (fun a e => P (f a e)) (xS P)) : P (m.toS f) := by
  cases m <;> first | exact h | exact h.elim
theorem bindS_w {α : Type} {m : R α} {f : α → Nv → SR} {g : Nv → SR} {P : SR → Prop} (h : wR m (fun a e => P ((f a e).bind g)) (xS P)) : P ((m.toS f).bind g) := by
  cases m <;> first | exact h | exact h.elim
theorem WB.nil (h : P (.nx e)) : WB cb K [] e P := ⟨h⟩
theorem WB.set {i : Nat} (h : WE cb K a e (fun v e1 => SvQ i v e1 fun e2 => WB cb K r e2 P) (xS P)) : WB cb K (.set (.v i) a :: r) e P := ⟨by
  rw [denB, denS]
  refine bindS_w (wR_imp h.h fun v e1 ⟨e2, h1, ⟨h⟩⟩ => ?_)
  simp only [h1, sget]
  exact h⟩
theorem WB.setF {i c k : Nat} (h : WE cb K a e (fun v e1 => FzQ e1 v fun d e2 => StQ (.fld i c k) d e2 fun e3 => WB cb K r e3 P) (xS P)) : WB cb K (.set (.fld i c k) a :: r) e P := ⟨by
  rw [denB, denS]
  · refine bindS_w (wR_imp h.h fun v e1 ⟨d, e2, h0, e3, h1, ⟨h⟩⟩ => ?_)
    simp only [h0, h1, sget]
    exact h
  · intro i h; cases h⟩
theorem WB.setT {ts : List T} (h : WE cb K a e (fun v e1 => FzQ e1 v fun d e2 => StQ (.t ts) d e2 fun e3 => WB cb K r e3 P) (xS P)) : WB cb K (.set (.t ts) a :: r) e P := ⟨by
  rw [denB, denS]
  · refine bindS_w (wR_imp h.h fun v e1 ⟨d, e2, h0, e3, h1, ⟨h⟩⟩ => ?_)
    simp only [h0, h1, sget]
    exact h
  · intro i h; cases h⟩
theorem WB.par {is : List Nat} {as : List E} (h : WF cb K as e (fun vs e1 => SvsQ is vs e1 fun e2 => WB cb K r e2 P) (xS P)) : WB cb K (.par is as :: r) e P := ⟨by
  rw [denB, denS]
  refine bindS_w (wR_imp h.h fun v e1 ⟨e2, h1, ⟨h⟩⟩ => ?_)
  simp only [h1, sget]
  exact h⟩
theorem WB.augA {i : Nat} {x : Int} (n : Nth e i (some (.sh, .int x))) (h : WE cb K a e (fun v e1 => LkQ e1 v fun d => InQ d fun y => StQ (.v i) (.int (x + y)) e1 fun e2 => WB cb K r e2 P) (xS P)) : WB cb K (.aug i .add a :: r) e P := ⟨by
  rw [denB, denS]
  simp only [n.h]
  refine bindS_w (wR_imp h.h fun v e1 ⟨d, h0, y, hy, e2, h1, ⟨h⟩⟩ => ?_)
  subst hy
  simp only [intV, h0, h1, sget]
  exact h⟩
theorem WB.augS {i : Nat} {x : Int} (n : Nth e i (some (.sh, .int x))) (h : WE cb K a e (fun v e1 => LkQ e1 v fun d => InQ d fun y => StQ (.v i) (.int (x - y)) e1 fun e2 => WB cb K r e2 P) (xS P)) : WB cb K (.aug i .sub a :: r) e P := ⟨by
  rw [denB, denS]
  simp only [n.h]
  refine bindS_w (wR_imp h.h fun v e1 ⟨d, h0, y, hy, e2, h1, ⟨h⟩⟩ => ?_)
  subst hy
  simp only [intV, h0, h1, sget]
  exact h⟩
structure SkQ (c k v : D) (q : D → Prop) : Prop where
  h : ∃ c', setK c k v = some c' ∧ q c'
theorem SkQ.l {xs : List D} {i : Int} {v : D} {q : D → Prop} (h0 : 0 ≤ i) (h1 : i < xs.length) (h : q (.lst (xs.set i.toNat v))) : SkQ (.lst xs) (.int i) v q := ⟨_, by simp only [setK, h0, h1, if_true], h⟩
theorem SkQ.d {kvs : List (L2.Key × D)} {k v : D} {p : L2.Key} {q : D → Prop} (hk : keyD k = some p) (hl : kvs.length < lim) (h : q (.dct (putK kvs p v))) : SkQ (.dct kvs) k v q := ⟨_, by
  cases k <;> simp only [setK, hk, Option.bind_some, hl, if_true], h⟩
theorem WB.seti {i : Nat} {k v : E} (h : OwQ e i fun _ _ => WE cb K v e (fun vv e1 => WE cb K k e1 (fun vk e2 => FzQ e2 vv fun z e3 => OwQ e3 i fun fl c => LkQ e3 vk fun y => SkQ c y z fun c' => PutQ e3 i (some (fl, c')) fun e4 => WB cb K r e4 P) (xS P)) (xS P)) : WB cb K (.seti i k v :: r) e P := ⟨by
  obtain ⟨_, _, h0, h⟩ := h
  rw [denB, denS]
  simp only [h0, Option.isSome_some, if_true]
  refine bindS_w (wR_imp h.h fun vv e1 ⟨h⟩ => ?_)
  refine bindS_w (wR_imp h fun vk e2 ⟨z, e3, h1, fl, c, h2, y, h3, c', h4, ⟨h⟩⟩ => ?_)
  simp only [h1, h2, h3, h4]
  exact h.h⟩
theorem WB.ex (h : WE cb K a e (fun _ e1 => WB cb K r e1 P) (xS P)) : WB cb K (.ex a :: r) e P := ⟨by
  rw [denB, denS]
  exact bindS_w (wR_imp h.h fun v e1 ⟨h⟩ => h)⟩
theorem WB.ret (h : WE cb K a e (fun v e1 => P (.rt v e1)) (xS P)) : WB cb K (.ret a :: r) e P := ⟨by
  rw [denB, denS]
  exact bindS_w (wR_imp h.h fun v e1 h => h)⟩
theorem WB.retN (h : P (.rt (.fz .non) e)) : WB cb K (.retN :: r) e P := ⟨h⟩
theorem denB_app : ∀ (x y : List S) (e : Nv), denB cb K (x ++ y) e = (denB cb K x e).bind (denB cb K y)
  | [], y, e => rfl
  | s :: x, y, e => by
    rw [List.cons_append, denB, denB]
    cases h : denS cb K s e <;> simp only [SR.bind]
    exact denB_app x y _
theorem WB.capp {s : S} {x y : List S} (h : WB cb K (s :: (x ++ y)) e P) : WB cb K (s :: x ++ y) e P := h
theorem WB.napp {y : List S} (h : WB cb K y e P) : WB cb K ([] ++ y) e P := h
theorem WB.app {x y : List S} (h : WB cb K x e fun s => match s with
    | .nx e1 => WB cb K y e1 P
    | s => P s) : WB cb K (x ++ y) e P := ⟨by
  have h := h.h
  rw [denB_app]
  split at h
  · rename_i e1 q
    rw [q]; exact h.h
  · rename_i s hs
    cases hd : denB cb K x e with
    | nx e1 => exact (hs _ hd).elim
    | _ => rw [hd] at h; exact h⟩
theorem WB.ite {x y : List S} (h : WE cb K c e (fun v e1 => LkQ e1 v fun d => BoQ d fun p => IfQ p (WB cb K (x ++ r) e1 P) (WB cb K (y ++ r) e1 P)) (xS P)) : WB cb K (.ite c x y :: r) e P := ⟨by
  rw [denB, denS]
  refine bindS_w (wR_imp h.h fun v e1 ⟨d, h1, p, h2, h3, h4⟩ => ?_)
  subst h2
  simp only [boolV, h1]
  cases p with
  | false =>
    have := (h4 rfl).h
    rw [denB_app] at this
    exact this
  | true =>
    have := (h3 rfl).h
    rw [denB_app] at this
    exact this⟩
/-- what comes behind a loop -/
abbrev aft (cb : Cal) (K : Nat → Option D) (ls : List Nat) (r : List S) (P : SR → Prop) : SR → Prop := fun s => match s with
  | .nx e2 => UnQ e2 ls fun e3 => WB cb K r e3 P
  | s => P s
theorem aft_w {ls : List Nat} {m : SR} (h : aft cb K ls r P m) : P ((m.bind fun e2 => sget (unlock e2 ls)).bind (denB cb K r)) := by
  cases m with
  | nx e2 =>
    obtain ⟨e3, h1, ⟨h⟩⟩ := h
    simp only [SR.bind, h1, sget]
    exact h
  | _ => exact h
theorem WB.for {t : T} {b : List S} (h : WI cb K a e (fun its ls e1 => FoQ cb K t b its e1 (aft cb K ls r P)) (xS P)) : WB cb K (.for t a b :: r) e P := ⟨by
  rw [denB, denS]
  exact bindS_w (wR_imp h.h fun p e1 ⟨h⟩ => aft_w h)⟩
theorem WB.whl {b : List S} (h : WhQ cb K c b fuelW e (aft cb K [] r P)) : WB cb K (.whl c b :: r) e P := ⟨by
  have h := h.h
  rw [denB, denS_whl]
  generalize whlGo _ _ _ _ = m at h ⊢
  cases m with
  | nx e2 =>
    obtain ⟨e3, h1, ⟨h⟩⟩ := h
    cases h1
    exact h
  | _ => exact h⟩
theorem aft_nx {ls : List Nat} (h : UnQ e ls fun e3 => WB cb K r e3 P) : aft cb K ls r P (.nx e) := h
theorem aft_rt {ls : List Nat} {v : VL} (h : P (.rt v e)) : aft cb K ls r P (.rt v e) := h
theorem aft_bk {ls : List Nat} (h : P (.bk e)) : aft cb K ls r P (.bk e) := h
theorem aft_ct {ls : List Nat} (h : P (.ct e)) : aft cb K ls r P (.ct e) := h
theorem aft_exc {ls : List Nat} {c : Nat} {d : D} (h : P (.exc c d e)) : aft cb K ls r P (.exc c d e) := h
theorem WB.brk (h : P (.bk e)) : WB cb K (.brk :: r) e P := ⟨h⟩
theorem WB.cnt (h : P (.ct e)) : WB cb K (.cnt :: r) e P := ⟨h⟩
theorem WB.pass (h : WB cb K r e P) : WB cb K (.pass :: r) e P := ⟨h.h⟩
theorem WB.rai {c : Nat} (h : WE cb K a e (fun v e1 => FzQ e1 v fun d e2 => P (.exc c d e2)) (xS P)) : WB cb K (.rai c a :: r) e P := ⟨by
  rw [denB, denS]
  refine bindS_w (wR_imp h.h fun v e1 ⟨d, e2, h1, h⟩ => ?_)
  simp only [h1]
  exact h⟩
/-! ### loops -/
/-- what is met behind a turn -/
def turnP (N : Nv → Prop) (B : Nv → Prop) (P : SR → Prop) : SR → Prop
  | .nx e => N e
  | .ct e => N e
  | .bk e => B e
  | .rt v e => P (.rt v e)
  | .exc c d e => P (.exc c d e)
  | .bad => False
theorem trn_nx {N B : Nv → Prop} (h : N e) : turnP N B P (.nx e) := h
theorem trn_ct {N B : Nv → Prop} (h : N e) : turnP N B P (.ct e) := h
theorem trn_bk {N B : Nv → Prop} (h : B e) : turnP N B P (.bk e) := h
theorem trn_rt {N B : Nv → Prop} {v : VL} (h : P (.rt v e)) : turnP N B P (.rt v e) := h
theorem trn_exc {N B : Nv → Prop} {c : Nat} {d : D} (h : P (.exc c d e)) : turnP N B P (.exc c d e) := h
theorem FoQ.inv {t : T} {b : List S} {its : List D} (I : List D → Nv → Prop) (h0 : I its e) (hs : ∀ x xs e, I (x :: xs) e → StQ t x e fun e1 => WB cb K b e1 (turnP (I xs) (fun e => P (.nx e)) P)) (hn : ∀ e, I [] e → P (.nx e)) : FoQ cb K t b its e P := by
  induction its generalizing e with
  | nil => exact ⟨hn _ h0⟩
  | cons x xs ih =>
    obtain ⟨e1, h1, ⟨h2⟩⟩ := hs x xs e h0
    refine ⟨?_⟩
    simp only [forGo, h1]
    generalize denB cb K b e1 = m at h2 ⊢
    cases m with
    | nx e2 => exact (ih h2).h
    | ct e2 => exact (ih h2).h
    | bk e2 => exact h2
    | rt v e2 => exact h2
    | exc c d e2 => exact h2
    | bad => exact h2.elim
/-- over a list that is told by another kind of items; the part done -/
theorem FoQ.invM {α : Type} {t : T} {b : List S} {f : α → D} {its : List α} (I : List α → List α → Nv → Prop) (h0 : I [] its e) (hs : ∀ l x r e, l ++ x :: r = its → I l (x :: r) e → StQ t (f x) e fun e1 => WB cb K b e1 (turnP (I (l ++ [x]) r) (fun e => P (.nx e)) P)) (hn : ∀ e, I its [] e → P (.nx e)) : FoQ cb K t b (its.map f) e P := by
  have key : ∀ (r l : List α) (e : Nv), l ++ r = its → I l r e → FoQ cb K t b (r.map f) e P := by
    intro r
    induction r with
    | nil =>
      intro l e hl hI
      rw [List.append_nil] at hl
      subst hl
      exact ⟨hn _ hI⟩
    | cons x xs ih =>
      intro l e hl hI
      obtain ⟨e1, h1, ⟨h2⟩⟩ := hs l x xs e hl hI
      refine ⟨?_⟩
      simp only [List.map_cons, forGo, h1]
      have ih' := fun e2 h => (ih (l ++ [x]) e2 (by rw [List.append_assoc]; exact hl) h).h
      generalize denB cb K b e1 = m at h2 ⊢
      cases m with
      | nx e2 => exact ih' _ h2
      | ct e2 => exact ih' _ h2
      | bk e2 => exact h2
      | rt v e2 => exact h2
      | exc c d e2 => exact h2
      | bad => exact h2.elim
  exact key its [] e rfl h0
theorem WhQ.inv {α : Type} {b : List S} {n : Nat} (mu : α → Nat) (I : α → Nv → Prop) (s0 : α) (h0 : I s0 e) (hb : mu s0 < n) (hs : ∀ s e, I s e → WE cb K c e (fun v e1 => LkQ e1 v fun d => BoQ d fun p => IfQ p (WB cb K b e1 (turnP (fun e2 => ∃ s', mu s' < mu s ∧ I s' e2) (fun e => P (.nx e)) P)) (P (.nx e1))) (xS P)) : WhQ cb K c b n e P := by
  induction n generalizing s0 e with
  | zero => omega
  | succ n ih =>
    refine ⟨?_⟩
    rw [whlGo]
    refine toS_w ?_
    rw [whlC, wR_bind]
    refine wR_imp (hs s0 e h0).h fun v e1 ⟨d, h1, p, h2, h3, h4⟩ => ?_
    subst h2
    simp only [boolV, h1, wR]
    cases p with
    | false => exact h4 rfl
    | true =>
      have h3 := (h3 rfl).h
      simp only [if_true]
      have ih' := fun e2 s' (hm : mu s' < n) hI => (ih (e := e2) s' hI hm).h
      generalize denB cb K b e1 = m at h3 ⊢
      cases m with
      | nx e2 => obtain ⟨s', h5, h6⟩ := h3; exact ih' e2 s' (by omega) h6
      | ct e2 => obtain ⟨s', h5, h6⟩ := h3; exact ih' e2 s' (by omega) h6
      | bk e2 => exact h3
      | rt v e2 => exact h3
      | exc c d e2 => exact h3
      | bad => exact h3.elim
/-! ### comprehensions -/
/-- a turn of a comprehension -/
theorem LcQ.inv {α : Type} {x : E} {vs : List Nat} {t : T} {ts : List E} {f : α → D} {its : List α} {acc : List D} {Q : List D → Nv → Prop} (I : List α → List α → List D → Nv → Prop) (h0 : I [] its acc e)
    (hs : ∀ l y r ds e, l ++ y :: r = its → I l (y :: r) ds e → StQ t (f y) e fun e1 => WT cb K ts e1 (fun b e2 => IfQ b (WE cb K x e2 (fun v e3 => FzQ e3 v fun d e4 => WpQ e4 vs fun e5 => LtmQ ds.length (I (l ++ [y]) r (ds ++ [d]) e5)) fun _ _ _ => False) (WpQ e2 vs fun e5 => I (l ++ [y]) r ds e5)) fun _ _ _ => False)
    (hn : ∀ ds e, I its [] ds e → Q ds e) : LcQ cb K x vs t ts (its.map f) acc e Q := by
  have key : ∀ (r l : List α) (ds : List D) (e : Nv), l ++ r = its → I l r ds e → LcQ cb K x vs t ts (r.map f) ds e Q := by
    intro r
    induction r with
    | nil =>
      intro l ds e hl hI
      rw [List.append_nil] at hl
      subst hl
      exact ⟨hn _ _ hI⟩
    | cons y ys ih =>
      intro l ds e hl hI
      obtain ⟨e1, h1, ⟨h2⟩⟩ := hs l y ys ds e hl hI
      have ih' := fun ds e2 h => (ih (l ++ [y]) ds e2 (by rw [List.append_assoc]; exact hl) h).h
      refine ⟨?_⟩
      rw [List.map_cons, lcGo]
      simp only [h1]
      generalize denT cb K ts e1 = m at h2 ⊢
      cases m with
      | ok b e2 =>
        obtain ⟨h3, h4⟩ := h2
        simp only [R.bind]
        cases b with
        | false => exact ih' _ _ (h4 rfl).h
        | true =>
          have h3 := (h3 rfl).h
          simp only [if_true]
          generalize den cb K x e2 = m at h3 ⊢
          cases m with
          | ok v e3 =>
            obtain ⟨d, e4, h5, ⟨h6, h7⟩⟩ := h3
            simp only [h5, if_pos h6]
            exact ih' _ _ h7
          | exc c d e => exact h3.elim
          | bad => exact h3.elim
      | exc c d e => exact h2.elim
      | bad => exact h2.elim
  exact key its [] acc e rfl h0
/-- a turn of a comprehension of two clauses -/
theorem Lc2Q.inv {α : Type} {x : E} {vs vs1 : List Nat} {t t1 : T} {src1 : E} {ts ts1 : List E} {f : α → D} {its : List α} {acc : List D} {Q : List D → Nv → Prop} (I : List α → List α → List D → Nv → Prop) (h0 : I [] its acc e)
    (hs : ∀ l y r ds e, l ++ y :: r = its → I l (y :: r) ds e → StQ t (f y) e fun e1 => WT cb K ts e1 (fun b e2 => IfQ b (WI cb K src1 e2 (fun its1 ls1 e4 => NoQ e4 vs1 (WpQ e4 vs1 fun e5 => LcQ cb K x vs1 t1 ts1 its1 ds e5 fun ds9 e9 => BkQ e4 e9 vs1 ls1 fun e10 => WpQ e10 vs fun e11 => I (l ++ [y]) r ds9 e11)) fun _ _ _ => False) (WpQ e2 vs fun e5 => I (l ++ [y]) r ds e5)) fun _ _ _ => False)
    (hn : ∀ ds e, I its [] ds e → Q ds e) : Lc2Q cb K x vs t ts vs1 t1 src1 ts1 (its.map f) acc e Q := by
  have key : ∀ (r l : List α) (ds : List D) (e : Nv), l ++ r = its → I l r ds e → Lc2Q cb K x vs t ts vs1 t1 src1 ts1 (r.map f) ds e Q := by
    intro r
    induction r with
    | nil =>
      intro l ds e hl hI
      rw [List.append_nil] at hl
      subst hl
      exact ⟨hn _ _ hI⟩
    | cons y ys ih =>
      intro l ds e hl hI
      obtain ⟨e1, h1, ⟨h2⟩⟩ := hs l y ys ds e hl hI
      have ih' := fun ds e2 h => (ih (l ++ [y]) ds e2 (by rw [List.append_assoc]; exact hl) h).h
      refine ⟨?_⟩
      rw [List.map_cons, lc2Go]
      simp only [h1]
      generalize denT cb K ts e1 = m at h2 ⊢
      cases m with
      | ok b e2 =>
        obtain ⟨h3, h4⟩ := h2
        simp only [R.bind]
        cases b with
        | false => exact ih' _ _ (h4 rfl).h
        | true =>
          have h3 := (h3 rfl).h
          simp only [if_true]
          generalize denI cb K src1 e2 = m at h3 ⊢
          cases m with
          | ok p e4 =>
            obtain ⟨its1, ls1⟩ := p
            obtain ⟨h5, ⟨h6⟩⟩ := h3
            simp only [h5, if_true]
            have h6 := h6.h
            simp only [R.bind] at h6
            generalize lcGo vs1 t1 _ its1 ds (wipeN e4 vs1) = m at h6 ⊢
            cases m with
            | ok ds9 e9 =>
              obtain ⟨e10, h7, ⟨h8⟩⟩ := h6
              simp only [h7]
              exact ih' _ _ h8
            | exc c d e => exact h6.elim
            | bad => exact h6.elim
          | exc c d e => exact h3.elim
          | bad => exact h3.elim
      | exc c d e => exact h2.elim
      | bad => exact h2.elim
  exact key its [] acc e rfl h0
/-- items put behind others -/
theorem LcQ.mapA {α : Type} {x : E} {vs : List Nat} {t : T} {f : α → D} {its : List α} {acc : List D} {Q : List D → Nv → Prop} (g : α → D) (hl : acc.length + its.length ≤ lim)
    (hs : ∀ y, y ∈ its → StQ t (f y) e fun e1 => WE cb K x e1 (fun v e3 => FzQ e3 v fun d e4 => WpQ e4 vs fun e5 => d = g y ∧ e5 = e) fun _ _ _ => False)
    (hn : Q (acc ++ its.map g) e) : LcQ cb K x vs t [] (its.map f) acc e Q := by
  refine LcQ.inv (fun l r ds e' => ds = acc ++ l.map g ∧ e' = e) ⟨by simp, rfl⟩ ?_ ?_
  · rintro l y r ds e' hl' ⟨rfl, rfl⟩
    obtain ⟨e1, h1, ⟨h2⟩⟩ := hs y (by rw [← hl']; simp)
    refine ⟨e1, h1, ⟨?_⟩⟩
    show wR (R.ok true e1) _ _
    refine ⟨fun _ => ⟨wR_imp h2 fun v e3 ⟨d, e4, h3, ⟨h4, h5⟩⟩ => ⟨d, e4, h3, ⟨?_, ?_, h5⟩⟩⟩, fun h => by cases h⟩
    · rw [List.length_append, List.length_map]
      have := congrArg List.length hl'
      simp at this
      omega
    · rw [List.map_append, h4, List.append_assoc]; rfl
  · rintro ds e' ⟨rfl, rfl⟩
    exact hn
/-- a turn of a dict comprehension -/
theorem DcQ.inv {α : Type} {kx x : E} {vs : List Nat} {t : T} {ts : List E} {f : α → D} {its : List α} {acc : List (L2.Key × D)} {Q : List (L2.Key × D) → Nv → Prop} (I : List α → List α → List (L2.Key × D) → Nv → Prop) (h0 : I [] its acc e)
    (hs : ∀ l y r ds e, l ++ y :: r = its → I l (y :: r) ds e → StQ t (f y) e fun e1 => WT cb K ts e1 (fun b e2 => IfQ b (WE cb K kx e2 (fun vk e3 => LkQ e3 vk fun dk => KyQ dk fun q => WE cb K x e3 (fun v e4 => FzQ e4 v fun d e5 => WpQ e5 vs fun e6 => LtmQ ds.length (I (l ++ [y]) r (putK ds q d) e6)) fun _ _ _ => False) fun _ _ _ => False) (WpQ e2 vs fun e5 => I (l ++ [y]) r ds e5)) fun _ _ _ => False)
    (hn : ∀ ds e, I its [] ds e → Q ds e) : DcQ cb K kx x vs t ts (its.map f) acc e Q := by
  have key : ∀ (r l : List α) (ds : List (L2.Key × D)) (e : Nv), l ++ r = its → I l r ds e → DcQ cb K kx x vs t ts (r.map f) ds e Q := by
    intro r
    induction r with
    | nil =>
      intro l ds e hl hI
      rw [List.append_nil] at hl
      subst hl
      exact ⟨hn _ _ hI⟩
    | cons y ys ih =>
      intro l ds e hl hI
      obtain ⟨e1, h1, ⟨h2⟩⟩ := hs l y ys ds e hl hI
      have ih' := fun ds e2 h => (ih (l ++ [y]) ds e2 (by rw [List.append_assoc]; exact hl) h).h
      refine ⟨?_⟩
      rw [List.map_cons, dcGo]
      simp only [h1]
      generalize denT cb K ts e1 = m at h2 ⊢
      cases m with
      | ok b e2 =>
        obtain ⟨h3, h4⟩ := h2
        simp only [R.bind]
        cases b with
        | false => exact ih' _ _ (h4 rfl).h
        | true =>
          have h3 := (h3 rfl).h
          simp only [if_true]
          generalize den cb K kx e2 = m at h3 ⊢
          cases m with
          | ok vk e3 =>
            obtain ⟨dk, hk1, q, hk2, ⟨h3⟩⟩ := h3
            simp only [hk1, Option.bind_some, hk2]
            generalize den cb K x e3 = m at h3 ⊢
            cases m with
            | ok v e4 =>
              obtain ⟨d, e5, h5, ⟨h6, h7⟩⟩ := h3
              simp only [h5, if_pos h6]
              exact ih' _ _ h7
            | exc c d e => exact h3.elim
            | bad => exact h3.elim
          | exc c d e => exact h3.elim
          | bad => exact h3.elim
      | exc c d e => exact h2.elim
      | bad => exact h2.elim
  exact key its [] acc e rfl h0
theorem putK_len (kvs : List (L2.Key × D)) (k : L2.Key) (v : D) : (putK kvs k v).length ≤ kvs.length + 1 := by
  unfold putK
  split
  · rw [List.length_map]; omega
  · rw [List.length_append]; exact Nat.le_refl _
/-- each item to one pair, the frame as it was -/
theorem DcQ.map {α : Type} {kx x : E} {vs : List Nat} {t : T} {f : α → D} {its : List α} {Q : List (L2.Key × D) → Nv → Prop} (kf : α → L2.Key) (g : α → D) (hl : its.length ≤ lim)
    (hs : ∀ y, y ∈ its → StQ t (f y) e fun e1 => WE cb K kx e1 (fun vk e3 => LkQ e3 vk fun dk => KyQ dk fun q => q = kf y ∧ WE cb K x e3 (fun v e4 => FzQ e4 v fun d e5 => WpQ e5 vs fun e6 => d = g y ∧ e6 = e) fun _ _ _ => False) fun _ _ _ => False)
    (hn : Q (its.foldl (fun a y => putK a (kf y) (g y)) []) e) : DcQ cb K kx x vs t [] (its.map f) [] e Q := by
  have hlen : ∀ l : List α, (l.foldl (fun a y => putK a (kf y) (g y)) []).length ≤ l.length := fun l => by
    rw [← List.reverse_reverse l]
    induction l.reverse with
    | nil => exact Nat.le_refl _
    | cons y r ih =>
      rw [List.reverse_cons, List.foldl_append, List.length_append]
      exact Nat.le_trans (putK_len _ _ _) (by simpa using ih)
  refine DcQ.inv (fun l r ds e' => ds = l.foldl (fun a y => putK a (kf y) (g y)) [] ∧ e' = e) ⟨rfl, rfl⟩ ?_ ?_
  · rintro l y r ds e' hl' ⟨rfl, rfl⟩
    obtain ⟨e1, h1, ⟨h2⟩⟩ := hs y (by rw [← hl']; simp)
    refine ⟨e1, h1, ⟨?_⟩⟩
    show wR (R.ok true e1) _ _
    refine ⟨fun _ => ⟨wR_imp h2 fun v e3 ⟨d, h3, q, h4, h5, ⟨h6⟩⟩ => ⟨d, h3, q, h4, ⟨wR_imp h6 fun v e4 ⟨d, e5, h7, ⟨h8, h9⟩⟩ => ⟨d, e5, h7, ⟨?_, ?_, h9⟩⟩⟩⟩⟩, fun h => by cases h⟩
    · have := hlen l
      have := congrArg List.length hl'
      simp at this
      omega
    · rw [List.foldl_append, h5, h8]; rfl
  · rintro ds e' ⟨rfl, rfl⟩
    exact hn
/-- each item to one value, the frame as it was -/
theorem LcQ.map {α : Type} {x : E} {vs : List Nat} {t : T} {f : α → D} {its : List α} {Q : List D → Nv → Prop} (g : α → D) (hl : its.length ≤ lim)
    (hs : ∀ y, y ∈ its → StQ t (f y) e fun e1 => WE cb K x e1 (fun v e3 => FzQ e3 v fun d e4 => WpQ e4 vs fun e5 => d = g y ∧ e5 = e) fun _ _ _ => False)
    (hn : Q (its.map g) e) : LcQ cb K x vs t [] (its.map f) [] e Q := by
  refine LcQ.inv (fun l r ds e' => ds = l.map g ∧ e' = e) ⟨rfl, rfl⟩ ?_ ?_
  · rintro l y r ds e' hl' ⟨rfl, rfl⟩
    obtain ⟨e1, h1, ⟨h2⟩⟩ := hs y (by rw [← hl']; simp)
    refine ⟨e1, h1, ⟨?_⟩⟩
    show wR (R.ok true e1) _ _
    refine ⟨fun _ => ⟨wR_imp h2 fun v e3 ⟨d, e4, h3, ⟨h4, h5⟩⟩ => ⟨d, e4, h3, ⟨?_, ?_, h5⟩⟩⟩, fun h => by cases h⟩
    · rw [List.length_map]
      have := congrArg List.length hl'
      simp at this
      omega
    · rw [List.map_append, h4]; rfl
  · rintro ds e' ⟨rfl, rfl⟩
    exact hn
/-- the items of a test -/
theorem LcQ.filter {α : Type} {x : E} {vs : List Nat} {t : T} {c : E} {f : α → D} {its : List α} {Q : List D → Nv → Prop} (p : α → Bool) (g : α → D) (hl : its.length ≤ lim)
    (hs : ∀ y, y ∈ its → StQ t (f y) e fun e1 => WE cb K c e1 (fun v e2 => LkQ e2 v fun d => BoQ d fun b => b = p y ∧ IfQ b (WE cb K x e2 (fun v e3 => FzQ e3 v fun d e4 => WpQ e4 vs fun e5 => d = g y ∧ e5 = e) fun _ _ _ => False) (WpQ e2 vs fun e5 => e5 = e)) fun _ _ _ => False)
    (hn : Q ((its.filter p).map g) e) : LcQ cb K x vs t [c] (its.map f) [] e Q := by
  refine LcQ.inv (fun l r ds e' => ds = (l.filter p).map g ∧ e' = e) ⟨rfl, rfl⟩ ?_ ?_
  · rintro l y r ds e' hl' ⟨rfl, rfl⟩
    obtain ⟨e1, h1, ⟨h2⟩⟩ := hs y (by rw [← hl']; simp)
    refine ⟨e1, h1, ⟨?_⟩⟩
    rw [denT, wR_bind]
    refine wR_imp h2 fun v e2 ⟨d, h3, b, h4, h5, h6, h7⟩ => ?_
    subst h4
    simp only [boolV, h3]
    have e1 : (l ++ [y]).filter p = l.filter p ++ (if p y then [y] else []) := by
      rw [List.filter_append]
      cases hp : p y <;> simp [hp]
    cases b with
    | false =>
      show wR (R.ok false e2) _ _
      refine ⟨fun h => (by cases h), fun _ => ⟨⟨?_, (h7 rfl).h⟩⟩⟩
      rw [e1, ← h5]; simp
    | true =>
      show wR (R.ok true e2) _ _
      refine ⟨fun _ => ⟨wR_imp (h6 rfl).h fun v e3 ⟨d, e4, h3, ⟨h4, h5'⟩⟩ => ⟨d, e4, h3, ⟨⟨?_, ?_, h5'⟩⟩⟩⟩, fun h => (by cases h)⟩
      · rw [List.length_map]
        have := congrArg List.length hl'
        have := List.length_filter_le p l
        simp at *
        omega
      · rw [e1, ← h5, h4]; simp
  · rintro ds e' ⟨rfl, rfl⟩
    exact hn
end
section
variable {cb : Cal} {K : Nat → Option D} {e : Nv} {α β : Type} {f : α → D} {g : β → D} {xs : List α} {ys : List β}
theorem LcQ.zip {x : E} {vs : List Nat} {t : T} {ts : List E} {acc : List D} {Q : List D → Nv → Prop} (h : LcQ cb K x vs t ts ((xs.zip ys).map fun p => .tup [f p.1, g p.2]) acc e Q) : LcQ cb K x vs t ts (zipL (xs.map f) (ys.map g)) acc e Q := by
  rw [zipL_map]; exact h
theorem LcQ.enm {x : E} {vs : List Nat} {t : T} {ts : List E} {acc : List D} {Q : List D → Nv → Prop} (h : LcQ cb K x vs t ts (xs.zipIdx.map fun p => .tup [.int (p.2 : Int), f p.1]) acc e Q) : LcQ cb K x vs t ts (enmL 0 (xs.map f)) acc e Q := by
  rw [enmL_map]; exact h
theorem DcQ.enm {k x : E} {vs : List Nat} {t : T} {ts : List E} {acc : List (L2.Key × D)} {Q : List (L2.Key × D) → Nv → Prop} (h : DcQ cb K k x vs t ts (xs.zipIdx.map fun p => .tup [.int (p.2 : Int), f p.1]) acc e Q) : DcQ cb K k x vs t ts (enmL 0 (xs.map f)) acc e Q := by
  rw [enmL_map]; exact h
theorem FoQ.zip {t : T} {b : List S} {P : SR → Prop} (h : FoQ cb K t b ((xs.zip ys).map fun p => .tup [f p.1, g p.2]) e P) : FoQ cb K t b (zipL (xs.map f) (ys.map g)) e P := by
  rw [zipL_map]; exact h
theorem FoQ.ezp {t : T} {b : List S} {P : SR → Prop} (h : FoQ cb K t b (((xs.zip ys).zipIdx).map fun p => .tup [.int (p.2 : Int), .tup [f p.1.1, g p.1.2]]) e P) : FoQ cb K t b (enmL 0 (zipL (xs.map f) (ys.map g))) e P := by
  rw [zipL_map, enmL_map]; exact h
theorem FoQ.enm {t : T} {b : List S} {P : SR → Prop} (h : FoQ cb K t b (xs.zipIdx.map fun p => .tup [.int (p.2 : Int), f p.1]) e P) : FoQ cb K t b (enmL 0 (xs.map f)) e P := by
  rw [enmL_map]; exact h
end
/-! ### where an item stands -/
theorem split_at {α : Type} {l r xs : List α} {x : α} (h : l ++ x :: r = xs) : xs[l.length]? = some x ∧ l.length + r.length + 1 = xs.length := by
  subst h
  exact ⟨by rw [List.getElem?_append_right (Nat.le_refl _), Nat.sub_self]; rfl, by rw [List.length_append, List.length_cons]; omega⟩
theorem range_at {l r : List Nat} {x N : Nat} (h : l ++ x :: r = List.range N) : x = l.length ∧ l.length + r.length + 1 = N := by
  obtain ⟨h1, h2⟩ := split_at h
  rw [List.length_range] at h2
  rw [List.getElem?_range (by omega)] at h1
  exact ⟨(Option.some.inj h1).symm, h2⟩
theorem zipIdx_at {α : Type} {l r : List (α × Nat)} {xs : List α} {p : α × Nat} (h : l ++ p :: r = xs.zipIdx) : p.2 = l.length ∧ xs[l.length]? = some p.1 ∧ l.length + r.length + 1 = xs.length := by
  obtain ⟨h1, h2⟩ := split_at h
  rw [List.length_zipIdx] at h2
  rw [List.getElem?_zipIdx, List.getElem?_eq_getElem (by omega)] at h1
  simp at h1
  subst h1
  exact ⟨rfl, List.getElem?_eq_getElem (by omega), h2⟩
/-! ### calls -/
section
variable {G : Nat → Option Fn} {K : Nat → Option D} {n i : Nat} {f : Fn} {ds : List D} {r : CR}
structure Mk (ds : List D) (n : Nat) (e : Nv) : Prop where
  h : (ds.map fun d => (some (Fl.sh, d) : Slot)) ++ List.replicate (n - ds.length) none = e
theorem Mk.nil0 : Mk [] 0 [] := ⟨rfl⟩
theorem Mk.nil {n : Nat} {r : Nv} (h : Mk [] n r) : Mk [] (n + 1) (none :: r) := ⟨by rw [← h.h]; rfl⟩
theorem Mk.cons {n : Nat} {d : D} {ds : List D} {r : Nv} (h : Mk ds n r) : Mk (d :: ds) (n + 1) (some (.sh, d) :: r) := ⟨by
  rw [← h.h, List.map_cons, List.length_cons, Nat.add_sub_add_right]; rfl⟩
structure EndQ (io : Bool) (ds : List D) (P : CR → Prop) (s : SR) : Prop where
  h : P (kindR ⟨0, 0, io, []⟩ ds (finR ⟨0, 0, io, []⟩ s))
/-- what a call comes to -/
structure CsP (cb : Cal) (f : Nat) (ds : List D) (P : CR → Prop) : Prop where
  h : P (cb f ds)
theorem CsP.ex {cb : Cal} {f : Nat} {ds : List D} {α : Type} {F : α → CR} {Q : α → Prop} (h : CsP cb f ds fun r => ∃ x, r = F x ∧ Q x) : ∃ x, Cs cb f ds (F x) ∧ Q x := by
  obtain ⟨x, h, q⟩ := h.h
  exact ⟨x, ⟨h⟩, q⟩
theorem CsP.of {P : CR → Prop} {np ns : Nat} {body : List S} {e0 : Nv} (hG : G i = some ⟨np, ns, false, body⟩) (hn : 1 ≤ n) (hl : ds.length = np) (he : Mk ds ns e0) (h : ∀ m, m + 1 = n → WB (callF G K m) K body e0 (EndQ false ds P)) : CsP (callF G K n) i ds P := by
  obtain ⟨m, rfl⟩ : ∃ m, n = m + 1 := ⟨n - 1, by omega⟩
  refine ⟨?_⟩
  rw [callF]
  simp only [hG, hl, if_true]
  have h := (h m rfl).h.h
  rw [← he.h] at h
  exact h
theorem CsP.ofI {P : CR → Prop} {np ns : Nat} {body : List S} {e0 : Nv} {d0 : D} (hG : G i = some ⟨np, ns + 1, true, body⟩) (hn : 1 ≤ n) (hl : (d0 :: ds).length = np) (he : Mk ds ns e0) (h : ∀ m, m + 1 = n → WB (callF G K m) K body (some (.io, d0) :: e0) (EndQ true (d0 :: ds) P)) : CsP (callF G K n) i (d0 :: ds) P := by
  obtain ⟨m, rfl⟩ : ∃ m, n = m + 1 := ⟨n - 1, by omega⟩
  refine ⟨?_⟩
  rw [callF]
  simp only [hG, hl, if_true]
  have h := (h m rfl).h.h
  rw [← he.h] at h
  have : startN ⟨np, ns + 1, true, body⟩ (d0 :: ds) = some (.io, d0) :: ((ds.map fun d => (some (Fl.sh, d) : Slot)) ++ List.replicate (ns - ds.length) none) := by
    show (some (Fl.io, d0) :: ds.map fun d => (some (Fl.sh, d) : Slot)) ++ List.replicate (ns + 1 - (ds.length + 1)) none = _
    rw [Nat.add_sub_add_right]; rfl
  rw [this]
  exact h
theorem Cs.of {np ns : Nat} {body : List S} {e0 : Nv} (hG : G i = some ⟨np, ns, false, body⟩) (hn : 1 ≤ n) (hl : ds.length = np) (he : Mk ds ns e0) (h : ∀ m, m + 1 = n → WB (callF G K m) K body e0 (EndQ false ds fun x => x = r)) : Cs (callF G K n) i ds r := ⟨(CsP.of (P := fun x => x = r) hG hn hl he h).h⟩
theorem Cs.ofI {np ns : Nat} {body : List S} {e0 : Nv} {d0 : D} (hG : G i = some ⟨np, ns + 1, true, body⟩) (hn : 1 ≤ n) (hl : (d0 :: ds).length = np) (he : Mk ds ns e0) (h : ∀ m, m + 1 = n → WB (callF G K m) K body (some (.io, d0) :: e0) (EndQ true (d0 :: ds) fun x => x = r)) : Cs (callF G K n) i (d0 :: ds) r := ⟨(CsP.ofI (P := fun x => x = r) hG hn hl he h).h⟩
/-- the ends -/
theorem fin_rt {ds : List D} {d : D} {e : Nv} {P : CR → Prop} (h : P (CR.ok false d .non)) : EndQ false ds P (.rt (.fz d) e) := ⟨h⟩
theorem fin_fr {ds : List D} {d : D} {e : Nv} {P : CR → Prop} (h : P (CR.ok true d .non)) : EndQ false ds P (.rt (.fr d) e) := ⟨h⟩
theorem fin_ow {ds : List D} {d : D} {e : Nv} {i : Nat} {P : CR → Prop} (n : Nth e i (some (.ow, d))) (h : P (CR.ok true d .non)) : EndQ false ds P (.rt (.pk i) e) := ⟨by
  simp only [finR, ioN, Bool.false_eq_true, if_false, n.h, kindR]
  exact h⟩
theorem fin_nx {ds : List D} {e : Nv} {P : CR → Prop} (h : P (CR.ok false .non .non)) : EndQ false ds P (.nx e) := ⟨h⟩
theorem fin_exc {ds : List D} {c : Nat} {d : D} {e : Nv} {P : CR → Prop} (h : P (CR.exc c d .non)) : EndQ false ds P (.exc c d e) := ⟨h⟩
theorem fio_rt {d0 d' : D} {ds : List D} {d : D} {e : Nv} {P : CR → Prop} (hk : kindOk d0 d' = true) (h : P (CR.ok false d d')) : EndQ true (d0 :: ds) P (.rt (.fz d) (some (.io, d') :: e)) := ⟨by
  show P (if kindOk d0 d' then _ else _)
  rw [if_pos hk]
  exact h⟩
theorem fio_fr {d0 d' : D} {ds : List D} {d : D} {e : Nv} {P : CR → Prop} (hk : kindOk d0 d' = true) (h : P (CR.ok true d d')) : EndQ true (d0 :: ds) P (.rt (.fr d) (some (.io, d') :: e)) := ⟨by
  show P (if kindOk d0 d' then _ else _)
  rw [if_pos hk]
  exact h⟩
theorem fio_ow {d0 d' : D} {ds : List D} {d : D} {i : Nat} {e : Nv} {P : CR → Prop} (n : Nth e i (some (.ow, d))) (hk : kindOk d0 d' = true) (h : P (CR.ok true d d')) : EndQ true (d0 :: ds) P (.rt (.pk (i + 1)) (some (.io, d') :: e)) := ⟨by
  simp only [finR, ioN, if_true, List.getElem?_cons_zero, List.getElem?_cons_succ, n.h, kindR, hk]
  exact h⟩
theorem fio_exc {d0 d' : D} {ds : List D} {c : Nat} {d : D} {e : Nv} {P : CR → Prop} (h : P (CR.exc c d d')) : EndQ true (d0 :: ds) P (.exc c d (some (.io, d') :: e)) := ⟨h⟩
theorem fio_nx {d0 d' : D} {ds : List D} {e : Nv} {P : CR → Prop} (hk : kindOk d0 d' = true) (h : P (CR.ok false .non d')) : EndQ true (d0 :: ds) P (.nx (some (.io, d') :: e)) := ⟨by
  show P (if kindOk d0 d' then _ else _)
  rw [if_pos hk]
  exact h⟩
end
end RT

set_option maxRecDepth 100000
set_option maxHeartbeats 4000000
local macro_rules | `(tactic| wtm_at "Rn") => `(tactic| (first | ((refine' RT.Nth.succ ?h; (case h => wtm_at "Rn"))) | fail))
local macro_rules | `(tactic| wtm_at "Rn") => `(tactic| (first | (exact RT.Nth.zero) | fail))
local macro_rules | `(tactic| wtm_at "Rr") => `(tactic| (first | ((refine' RT.Setr.succ ?h; (case h => wtm_at "Rr"))) | fail))
local macro_rules | `(tactic| wtm_at "Rr") => `(tactic| (first | (exact RT.Setr.zero) | fail))
local macro_rules | `(tactic| wtm_at "Rfre") => `(tactic| (first | ((refine' RT.Fre.jo ?h ?j; (case h => wtm_at "Rn"); (case j => with_reducible assumption))) | fail))
local macro_rules | `(tactic| wtm_at "Rfre") => `(tactic| (first | ((refine' RT.Fre.j ?h ?j; (case h => wtm_at "Rn"); (case j => with_reducible assumption))) | fail))
local macro_rules | `(tactic| wtm_at "Rfre") => `(tactic| (first | ((refine' RT.Fre.ow ?h; (case h => wtm_at "Rn"))) | fail))
local macro_rules | `(tactic| wtm_at "Rfre") => `(tactic| (first | ((refine' RT.Fre.sh ?h; (case h => wtm_at "Rn"))) | fail))
local macro_rules | `(tactic| wtm_at "Rfre") => `(tactic| (first | ((refine' RT.Fre.non ?h; (case h => wtm_at "Rn"))) | fail))
local macro_rules | `(tactic| wtm_at "Rmk") => `(tactic| (first | ((refine' RT.Mk.nil ?h; (case h => wtm_at "Rmk"))) | fail))
local macro_rules | `(tactic| wtm_at "Rmk") => `(tactic| (first | ((refine' RT.Mk.cons ?h; (case h => wtm_at "Rmk"))) | fail))
local macro_rules | `(tactic| wtm_at "Rmk") => `(tactic| (first | (exact RT.Mk.nil0) | fail))
local macro_rules | `(tactic| wtm_at "Rside") => `(tactic| (first | ((simp only [*, List.length_append, List.length_map, List.length_cons, List.length_nil, List.length_range, List.length_zip, List.length_zipWith, List.length_replicate, List.length_reverse, List.length_set, RT.lim, RT.lim62] <;> omega)) | fail))
local macro_rules | `(tactic| wtm_at "Rside") => `(tactic| (first | ((simp [RT.lim, RT.lim62] <;> omega)) | fail))
local macro_rules | `(tactic| wtm_at "Rside") => `(tactic| (first | ((simp only [List.length_append, List.length_map, List.length_cons, List.length_nil, List.length_range, List.length_zip, List.length_zipWith, List.length_replicate, List.length_reverse, List.length_set, RT.lim, RT.lim62] <;> omega)) | fail))
local macro_rules | `(tactic| wtm_at "Rside") => `(tactic| (first | (omega) | fail))
local macro_rules | `(tactic| wtm_at "Rside") => `(tactic| (first | (with_reducible assumption) | fail))
local macro_rules | `(tactic| wtm_at "Ri64") => `(tactic| (first | ((refine Or.inr (RT.i64_of ?_ ?_) <;> omega)) | fail))
local macro_rules | `(tactic| wtm_at "Ri64") => `(tactic| (first | ((refine Or.inl (RT.i64_of ?_ ?_) <;> omega)) | fail))
local macro_rules | `(tactic| wtm_at "Ri64") => `(tactic| (first | (exact Or.inr (by decide)) | fail))
local macro_rules | `(tactic| wtm_at "Ri64") => `(tactic| (first | (exact Or.inl (by decide)) | fail))
local macro_rules | `(tactic| wtm_at "Rplain") => `(tactic| (first | ((simp [RT.plainD, RT.okS, *]; done)) | fail))
local macro_rules | `(tactic| wtm_at "Rplain") => `(tactic| (first | (with_reducible assumption) | fail))
local macro_rules | `(tactic| wtm_at "Rplain") => `(tactic| (first | (rfl) | fail))
local macro_rules | `(tactic| wtm_at "Rat") => `(tactic| (first | ((refine' RT.atD_at ?h0 ?h1; (case h0 => omega); (case h1 => (simp; done)))) | fail))
local macro_rules | `(tactic| wtm_at "Rat") => `(tactic| (first | ((refine' RT.atD_map ?h0 ?h1; (case h0 => omega); (case h1 => (simp; done)))) | fail))
local macro_rules | `(tactic| wtm_at "Rat") => `(tactic| (first | ((refine' RT.atD_at ?h0 ?h1; (case h0 => omega); (case h1 => rfl))) | fail))
local macro_rules | `(tactic| wtm_at "Rat") => `(tactic| (first | ((refine' RT.atD_map ?h0 ?h1; (case h0 => omega); (case h1 => rfl))) | fail))
local macro_rules | `(tactic| wtm_at "Rat") => `(tactic| (first | (rfl) | fail))
local macro_rules | `(tactic| wtm_at "Rat") => `(tactic| (first | ((refine' RT.atD_at ?h0 ?h1; (case h0 => omega); (case h1 => exact List.getElem?_eq_getElem (by omega)))) | fail))
local macro_rules | `(tactic| wtm_at "Rat") => `(tactic| (first | ((refine' RT.atD_map ?h0 ?h1; (case h0 => omega); (case h1 => exact List.getElem?_eq_getElem (by omega)))) | fail))
local macro_rules | `(tactic| wtm_at "Rat") => `(tactic| (first | ((refine' RT.atD_at ?h0 ?h1; (case h0 => omega); (case h1 => with_reducible assumption))) | fail))
local macro_rules | `(tactic| wtm_at "Rat") => `(tactic| (first | ((refine' RT.atD_map ?h0 ?h1; (case h0 => omega); (case h1 => with_reducible assumption))) | fail))
local macro_rules | `(tactic| wtm_at "Rop") => `(tactic| (rfl))
local macro_rules | `(tactic| wtm_at "Rcall") => `(tactic| (fail "call"))
local macro_rules | `(tactic| wtm_at "Rdec") => `(tactic| (first | (rfl) | fail))
local macro_rules | `(tactic| wtm_at "Rdec") => `(tactic| (first | ((refine decide_eq_false (fun h => h ?_); first | with_reducible rfl | with_reducible assumption)) | fail))
local macro_rules | `(tactic| wtm_at "Rdec") => `(tactic| (first | ((refine decide_eq_false ?_; first | with_reducible assumption | omega)) | fail))
local macro_rules | `(tactic| wtm_at "Rdec") => `(tactic| (first | ((refine decide_eq_true ?_; first | with_reducible assumption | omega)) | fail))
local macro_rules | `(tactic| wtm_at "Rdec") => `(tactic| (first | (with_reducible rfl) | fail))
local macro_rules | `(tactic| wtm_at "Rdec") => `(tactic| (first | (with_reducible assumption) | fail))
local macro_rules | `(tactic| wtm_at "Rno") => `(tactic| (first | (contradiction) | fail))
local macro_rules | `(tactic| wtm_at "Rno") => `(tactic| (first | (omega) | fail))
local macro_rules | `(tactic| wtm_at "Rwe") => `(tactic| (first | (((with_reducible refine' RT.WE.glb ?h ?_); (case h => rfl))) | fail))
local macro_rules | `(tactic| wtm_at "Rwe") => `(tactic| (first | (((with_reducible refine' RT.WE.pop ?h ?_); (case h => wtm_at "Rn"))) | fail))
local macro_rules | `(tactic| wtm_at "Rwe") => `(tactic| (first | (((with_reducible refine' RT.WE.popA ?_ ?h); (case h => first | with_unfolding_all rfl | (simp; done)))) | fail))
local macro_rules | `(tactic| wtm_at "Rwe") => `(tactic| (first | ((with_reducible refine RT.WE.lc2 ?_)) | fail))
local macro_rules | `(tactic| wtm_at "Rwe") => `(tactic| (first | ((with_reducible refine RT.WE.lrgT ?_)) | fail))
local macro_rules | `(tactic| wtm_at "Rwe") => `(tactic| (first | ((with_reducible refine RT.WE.lrgF ?_)) | fail))
local macro_rules | `(tactic| wtm_at "Rwe") => `(tactic| (first | (((with_reducible refine' RT.WE.ext ?h ?_); (case h => first | with_unfolding_all rfl | (simp; done)))) | fail))
local macro_rules | `(tactic| wtm_at "Rwe") => `(tactic| (first | (((with_reducible refine' RT.WE.app ?h ?_); (case h => first | with_unfolding_all rfl | (simp; done)))) | fail))
local macro_rules | `(tactic| wtm_at "Rwe") => `(tactic| (first | ((with_reducible refine RT.WE.get ?_)) | fail))
local macro_rules | `(tactic| wtm_at "Rwe") => `(tactic| (first | ((with_reducible refine RT.WE.dc ?_)) | fail))
local macro_rules | `(tactic| wtm_at "Rwe") => `(tactic| (first | ((with_reducible refine RT.WE.lc ?_)) | fail))
local macro_rules | `(tactic| wtm_at "Rwe") => `(tactic| (first | ((with_reducible refine RT.WE.prop ?_)) | fail))
local macro_rules | `(tactic| wtm_at "Rwe") => `(tactic| (first | ((with_reducible refine RT.WE.new ?_)) | fail))
local macro_rules | `(tactic| wtm_at "Rwe") => `(tactic| (first | ((with_reducible refine RT.WE.rev ?_)) | fail))
local macro_rules | `(tactic| wtm_at "Rwe") => `(tactic| (first | ((with_reducible refine RT.WE.slc ?_)) | fail))
local macro_rules | `(tactic| wtm_at "Rwe") => `(tactic| (first | ((with_reducible refine RT.WE.ife ?_)) | fail))
local macro_rules | `(tactic| wtm_at "Rwe") => `(tactic| (first | ((with_reducible refine RT.WE.not ?_)) | fail))
local macro_rules | `(tactic| wtm_at "Rwe") => `(tactic| (first | ((with_reducible refine RT.WE.or ?_)) | fail))
local macro_rules | `(tactic| wtm_at "Rwe") => `(tactic| (first | ((with_reducible refine RT.WE.and ?_)) | fail))
local macro_rules | `(tactic| wtm_at "Rwe") => `(tactic| (first | ((with_reducible refine RT.WE.chn ?_)) | fail))
local macro_rules | `(tactic| wtm_at "Rwe") => `(tactic| (first | ((with_reducible refine RT.WE.neg ?_)) | fail))
local macro_rules | `(tactic| wtm_at "Rwe") => `(tactic| (first | ((with_reducible refine RT.WE.fnv ?_)) | fail))
local macro_rules | `(tactic| wtm_at "Rwe") => `(tactic| (first | ((with_reducible refine RT.WE.dn ?_)) | fail))
local macro_rules | `(tactic| wtm_at "Rwe") => `(tactic| (first | ((with_reducible refine RT.WE.str ?_)) | fail))
local macro_rules | `(tactic| wtm_at "Rwe") => `(tactic| (first | ((with_reducible refine RT.WE.non ?_)) | fail))
local macro_rules | `(tactic| wtm_at "Rwe") => `(tactic| (first | ((with_reducible refine RT.WE.bl ?_)) | fail))
local macro_rules | `(tactic| wtm_at "Rwe") => `(tactic| (first | ((with_reducible refine RT.WE.lst ?_)) | fail))
local macro_rules | `(tactic| wtm_at "Rwe") => `(tactic| (first | ((with_reducible refine RT.WE.tup ?_)) | fail))
local macro_rules | `(tactic| wtm_at "Rwe") => `(tactic| (first | ((with_reducible refine RT.WE.fld ?_)) | fail))
local macro_rules | `(tactic| wtm_at "Rwe") => `(tactic| (first | ((with_reducible refine RT.WE.callF ?_)) | fail))
local macro_rules | `(tactic| wtm_at "Rwe") => `(tactic| (first | ((with_reducible refine RT.WE.callL ?_)) | fail))
local macro_rules | `(tactic| wtm_at "Rwe") => `(tactic| (first | ((with_reducible refine RT.WE.callI ?_)) | fail))
local macro_rules | `(tactic| wtm_at "Rwe") => `(tactic| (first | ((with_reducible refine RT.WE.call ?_)) | fail))
local macro_rules | `(tactic| wtm_at "Rwe") => `(tactic| (first | ((with_reducible refine RT.WE.blt ?_)) | fail))
local macro_rules | `(tactic| wtm_at "Rwe") => `(tactic| (first | ((with_reducible refine RT.WE.cmp ?_)) | fail))
local macro_rules | `(tactic| wtm_at "Rwe") => `(tactic| (first | ((with_reducible refine RT.WE.bin ?_)) | fail))
local macro_rules | `(tactic| wtm_at "Rwe") => `(tactic| (first | ((with_reducible refine RT.WE.idx ?_)) | fail))
local macro_rules | `(tactic| wtm_at "Rwe") => `(tactic| (first | ((with_reducible refine RT.WE.int ?_)) | fail))
local macro_rules | `(tactic| wtm_at "Rwe") => `(tactic| (first | (((with_reducible refine' RT.WE.var ?h ?_); (case h => wtm_at "Rn"))) | fail))
local macro_rules | `(tactic| wtm_at "Rwb") => `(tactic| (first | ((with_reducible refine RT.WB.rai ?_)) | fail))
local macro_rules | `(tactic| wtm_at "Rwb") => `(tactic| (first | ((with_reducible refine RT.WB.pass ?_)) | fail))
local macro_rules | `(tactic| wtm_at "Rwb") => `(tactic| (first | ((with_reducible refine RT.WB.cnt ?_)) | fail))
local macro_rules | `(tactic| wtm_at "Rwb") => `(tactic| (first | ((with_reducible refine RT.WB.brk ?_)) | fail))
local macro_rules | `(tactic| wtm_at "Rwb") => `(tactic| (first | ((with_reducible refine RT.WB.retN ?_)) | fail))
local macro_rules | `(tactic| wtm_at "Rwb") => `(tactic| (first | (((with_reducible refine' RT.WB.augS ?h ?_); (case h => wtm_at "Rn"))) | fail))
local macro_rules | `(tactic| wtm_at "Rwb") => `(tactic| (first | (((with_reducible refine' RT.WB.augA ?h ?_); (case h => wtm_at "Rn"))) | fail))
local macro_rules | `(tactic| wtm_at "Rwb") => `(tactic| (first | ((with_reducible refine RT.WB.napp ?_)) | fail))
local macro_rules | `(tactic| wtm_at "Rwb") => `(tactic| (first | ((with_reducible refine RT.WB.capp ?_)) | fail))
local macro_rules | `(tactic| wtm_at "Rwb") => `(tactic| (first | ((with_reducible refine RT.WB.setF ?_)) | fail))
local macro_rules | `(tactic| wtm_at "Rwb") => `(tactic| (first | ((with_reducible refine RT.WB.whl ?_)) | fail))
local macro_rules | `(tactic| wtm_at "Rwb") => `(tactic| (first | ((with_reducible refine RT.WB.nil ?_)) | fail))
local macro_rules | `(tactic| wtm_at "Rwb") => `(tactic| (first | ((with_reducible refine RT.WB.seti ?_)) | fail))
local macro_rules | `(tactic| wtm_at "Rwb") => `(tactic| (first | ((with_reducible refine RT.WB.par ?_)) | fail))
local macro_rules | `(tactic| wtm_at "Rwb") => `(tactic| (first | ((with_reducible refine RT.WB.setT ?_)) | fail))
local macro_rules | `(tactic| wtm_at "Rwb") => `(tactic| (first | ((with_reducible refine RT.WB.for ?_)) | fail))
local macro_rules | `(tactic| wtm_at "Rwb") => `(tactic| (first | ((with_reducible refine RT.WB.ex ?_)) | fail))
local macro_rules | `(tactic| wtm_at "Rwb") => `(tactic| (first | ((with_reducible refine RT.WB.ite ?_)) | fail))
local macro_rules | `(tactic| wtm_at "Rwb") => `(tactic| (first | ((with_reducible refine RT.WB.ret ?_)) | fail))
local macro_rules | `(tactic| wtm_at "Rwb") => `(tactic| (first | ((with_reducible refine RT.WB.set ?_)) | fail))
local macro_rules | `(tactic| wtm_at "Rblq") => `(tactic| (first | (((with_reducible refine' RT.BlQ.lenStr ?h ?_); (case h => wtm_at "Rside"))) | fail))
local macro_rules | `(tactic| wtm_at "Rblq") => `(tactic| (first | (((with_reducible refine' RT.BlQ.isi ?h ?_); (case h => first | rfl | with_reducible assumption))) | fail))
local macro_rules | `(tactic| wtm_at "Rblq") => `(tactic| (first | (((with_reducible refine' RT.BlQ.divmod ?h ?_); (case h => wtm_at "Rside"))) | fail))
local macro_rules | `(tactic| wtm_at "Rblq") => `(tactic| (first | ((with_reducible refine RT.BlQ.sum ?_)) | fail))
local macro_rules | `(tactic| wtm_at "Rblq") => `(tactic| (first | ((with_reducible refine RT.BlQ.abs ?_)) | fail))
local macro_rules | `(tactic| wtm_at "Rblq") => `(tactic| (first | ((with_reducible refine RT.BlQ.min ?_)) | fail))
local macro_rules | `(tactic| wtm_at "Rblq") => `(tactic| (first | ((with_reducible refine RT.BlQ.max ?_)) | fail))
local macro_rules | `(tactic| wtm_at "Rblq") => `(tactic| (first | ((with_reducible refine RT.BlQ.any ?_)) | fail))
local macro_rules | `(tactic| wtm_at "Rblq") => `(tactic| (first | ((with_reducible refine RT.BlQ.all ?_)) | fail))
local macro_rules | `(tactic| wtm_at "Rblq") => `(tactic| (first | ((with_reducible refine RT.BlQ.intB ?_)) | fail))
local macro_rules | `(tactic| wtm_at "Rblq") => `(tactic| (first | ((with_reducible refine RT.BlQ.int ?_)) | fail))
local macro_rules | `(tactic| wtm_at "Rblq") => `(tactic| (first | ((with_reducible refine RT.BlQ.lstT ?_)) | fail))
local macro_rules | `(tactic| wtm_at "Rblq") => `(tactic| (first | ((with_reducible refine RT.BlQ.lstL ?_)) | fail))
local macro_rules | `(tactic| wtm_at "Rblq") => `(tactic| (first | ((with_reducible refine RT.BlQ.tupT ?_)) | fail))
local macro_rules | `(tactic| wtm_at "Rblq") => `(tactic| (first | ((with_reducible refine RT.BlQ.tupL ?_)) | fail))
local macro_rules | `(tactic| wtm_at "Rblq") => `(tactic| (first | ((with_reducible refine RT.BlQ.lenD ?_)) | fail))
local macro_rules | `(tactic| wtm_at "Rblq") => `(tactic| (first | ((with_reducible refine RT.BlQ.lenS ?_)) | fail))
local macro_rules | `(tactic| wtm_at "Rblq") => `(tactic| (first | ((with_reducible refine RT.BlQ.lenT ?_)) | fail))
local macro_rules | `(tactic| wtm_at "Rblq") => `(tactic| (first | ((with_reducible refine RT.BlQ.lenL ?_)) | fail))
local macro_rules | `(tactic| wtm_at "Rblq") => `(tactic| (first | ((with_reducible refine RT.BlQ.lenSm ?_)) | fail))
local macro_rules | `(tactic| wtm_at "Rblq") => `(tactic| (first | ((with_reducible refine RT.BlQ.lenTm ?_)) | fail))
local macro_rules | `(tactic| wtm_at "Rblq") => `(tactic| (first | ((with_reducible refine RT.BlQ.lenLm ?_)) | fail))
local macro_rules | `(tactic| wtm_at "Rbinq") => `(tactic| (first | (((with_reducible refine' RT.BinQ.pow ?h ?_); (case h => first | decide | wtm_at "Rside"))) | fail))
local macro_rules | `(tactic| wtm_at "Rbinq") => `(tactic| (first | (((with_reducible refine' RT.BinQ.mulL ?h ?_); (case h => wtm_at "Rside"))) | fail))
local macro_rules | `(tactic| wtm_at "Rbinq") => `(tactic| (first | (((with_reducible refine' RT.BinQ.mulT ?h ?_); (case h => wtm_at "Rside"))) | fail))
local macro_rules | `(tactic| wtm_at "Rbinq") => `(tactic| (first | (((with_reducible refine' RT.BinQ.addS ?h ?_); (case h => wtm_at "Rside"))) | fail))
local macro_rules | `(tactic| wtm_at "Rbinq") => `(tactic| (first | (((with_reducible refine' RT.BinQ.addL ?h ?_); (case h => wtm_at "Rside"))) | fail))
local macro_rules | `(tactic| wtm_at "Rbinq") => `(tactic| (first | (((with_reducible refine' RT.BinQ.addT ?h ?_); (case h => wtm_at "Rside"))) | fail))
local macro_rules | `(tactic| wtm_at "Rbinq") => `(tactic| (first | (((with_reducible refine' RT.BinQ.div ?h ?_); (case h => wtm_at "Rside"))) | fail))
local macro_rules | `(tactic| wtm_at "Rbinq") => `(tactic| (first | (((with_reducible refine' RT.BinQ.mod ?h ?_); (case h => wtm_at "Rside"))) | fail))
local macro_rules | `(tactic| wtm_at "Rbinq") => `(tactic| (first | (((with_reducible refine' RT.BinQ.mul ?h ?_); (case h => wtm_at "Ri64"))) | fail))
local macro_rules | `(tactic| wtm_at "Rbinq") => `(tactic| (first | ((with_reducible refine RT.BinQ.sub ?_)) | fail))
local macro_rules | `(tactic| wtm_at "Rbinq") => `(tactic| (first | ((with_reducible refine RT.BinQ.add ?_)) | fail))
local macro_rules | `(tactic| wtm_at "Rcmpq") => `(tactic| (first | (((with_reducible refine' RT.CmpQ.ninT ?h1 ?h2 ?_); (case h1 => wtm_at "Rplain"); (case h2 => wtm_at "Rplain"))) | fail))
local macro_rules | `(tactic| wtm_at "Rcmpq") => `(tactic| (first | (((with_reducible refine' RT.CmpQ.ninL ?h1 ?h2 ?_); (case h1 => wtm_at "Rplain"); (case h2 => wtm_at "Rplain"))) | fail))
local macro_rules | `(tactic| wtm_at "Rcmpq") => `(tactic| (first | (((with_reducible refine' RT.CmpQ.inT ?h1 ?h2 ?_); (case h1 => wtm_at "Rplain"); (case h2 => wtm_at "Rplain"))) | fail))
local macro_rules | `(tactic| wtm_at "Rcmpq") => `(tactic| (first | (((with_reducible refine' RT.CmpQ.inL ?h1 ?h2 ?_); (case h1 => wtm_at "Rplain"); (case h2 => wtm_at "Rplain"))) | fail))
local macro_rules | `(tactic| wtm_at "Rcmpq") => `(tactic| (first | (((with_reducible refine' RT.CmpQ.ne ?h1 ?h2 ?_); (case h1 => wtm_at "Rplain"); (case h2 => wtm_at "Rplain"))) | fail))
local macro_rules | `(tactic| wtm_at "Rcmpq") => `(tactic| (first | (((with_reducible refine' RT.CmpQ.eq ?h1 ?h2 ?_); (case h1 => wtm_at "Rplain"); (case h2 => wtm_at "Rplain"))) | fail))
local macro_rules | `(tactic| wtm_at "Rcmpq") => `(tactic| (first | ((with_reducible refine RT.CmpQ.nisn ?_)) | fail))
local macro_rules | `(tactic| wtm_at "Rcmpq") => `(tactic| (first | ((with_reducible refine RT.CmpQ.isn ?_)) | fail))
local macro_rules | `(tactic| wtm_at "Rcmpq") => `(tactic| (first | ((with_reducible refine RT.CmpQ.ge ?_)) | fail))
local macro_rules | `(tactic| wtm_at "Rcmpq") => `(tactic| (first | ((with_reducible refine RT.CmpQ.gt ?_)) | fail))
local macro_rules | `(tactic| wtm_at "Rcmpq") => `(tactic| (first | ((with_reducible refine RT.CmpQ.le ?_)) | fail))
local macro_rules | `(tactic| wtm_at "Rcmpq") => `(tactic| (first | ((with_reducible refine RT.CmpQ.lt ?_)) | fail))
local macro_rules | `(tactic| wtm_at "Rcmpq") => `(tactic| (first | ((with_reducible refine RT.CmpQ.neI ?_)) | fail))
local macro_rules | `(tactic| wtm_at "Rcmpq") => `(tactic| (first | ((with_reducible refine RT.CmpQ.eqI ?_)) | fail))
local macro_rules | `(tactic| wtm_at "Rifq") => `(tactic| (first | (((with_reducible refine RT.IfQ.mk ?_ ?_) <;> intro hp <;> (try simp only [decide_eq_true_eq, decide_eq_false_iff_not, Int.not_lt, Int.not_le, Bool.not_eq_true', Bool.not_eq_false', ne_eq, Decidable.not_not] at hp) <;> (try (exfalso; wtm_at "Rno"; done)))) | fail))
local macro_rules | `(tactic| wtm_at "Rifq") => `(tactic| (first | (((with_reducible refine' RT.IfQ.f1 ?h ?_); (case h => wtm_at "Rdec"))) | fail))
local macro_rules | `(tactic| wtm_at "Rifq") => `(tactic| (first | (((with_reducible refine' RT.IfQ.t1 ?h ?_); (case h => wtm_at "Rdec"))) | fail))
local macro_rules | `(tactic| wtm_at "Rifq") => `(tactic| (first | ((with_reducible refine RT.IfQ.ff ?_)) | fail))
local macro_rules | `(tactic| wtm_at "Rifq") => `(tactic| (first | ((with_reducible refine RT.IfQ.tt ?_)) | fail))
local macro_rules | `(tactic| wtm_at "Rz1") => `(tactic| (first | ((with_reducible refine RT.VaQ.lk ?_)) | fail))
local macro_rules | `(tactic| wtm_at "Rz1") => `(tactic| (first | ((with_reducible refine RT.VaQ.io ?_)) | fail))
local macro_rules | `(tactic| wtm_at "Rz1") => `(tactic| (first | ((with_reducible refine RT.VaQ.ow ?_)) | fail))
local macro_rules | `(tactic| wtm_at "Rz1") => `(tactic| (first | ((with_reducible refine RT.VaQ.sh ?_)) | fail))
local macro_rules | `(tactic| wtm_at "Rz2") => `(tactic| (first | (((with_reducible refine' RT.LkQ.pk ?h ?_); (case h => wtm_at "Rn"))) | fail))
local macro_rules | `(tactic| wtm_at "Rz2") => `(tactic| (first | ((with_reducible refine RT.LkQ.fr ?_)) | fail))
local macro_rules | `(tactic| wtm_at "Rz2") => `(tactic| (first | ((with_reducible refine RT.LkQ.fz ?_)) | fail))
local macro_rules | `(tactic| wtm_at "Rz3") => `(tactic| (first | ((with_reducible refine RT.WL.cons rfl ?_)) | fail))
local macro_rules | `(tactic| wtm_at "Rz3") => `(tactic| (first | ((with_reducible refine RT.WL.star ?_)) | fail))
local macro_rules | `(tactic| wtm_at "Rz3") => `(tactic| (first | ((with_reducible refine RT.WL.nil ?_)) | fail))
local macro_rules | `(tactic| wtm_at "Rz4") => `(tactic| (first | ((with_reducible refine RT.VsQ.pk ?_)) | fail))
local macro_rules | `(tactic| wtm_at "Rz4") => `(tactic| (first | ((with_reducible refine RT.VsQ.fr ?_)) | fail))
local macro_rules | `(tactic| wtm_at "Rz4") => `(tactic| (first | ((with_reducible refine RT.VsQ.fz ?_)) | fail))
local macro_rules | `(tactic| wtm_at "Rz5") => `(tactic| (first | (((with_reducible refine' RT.IxQ.s ?h ?_); (case h => wtm_at "Rat"))) | fail))
local macro_rules | `(tactic| wtm_at "Rz5") => `(tactic| (first | (((with_reducible refine' RT.IxQ.t ?h ?_); (case h => wtm_at "Rat"))) | fail))
local macro_rules | `(tactic| wtm_at "Rz5") => `(tactic| (first | (((with_reducible refine' RT.IxQ.l ?h ?_); (case h => wtm_at "Rat"))) | fail))
local macro_rules | `(tactic| wtm_at "Rz6") => `(tactic| (first | ((with_reducible refine RT.LksQ.cons ?_)) | fail))
local macro_rules | `(tactic| wtm_at "Rz6") => `(tactic| (first | ((with_reducible refine RT.LksQ.nil ?_)) | fail))
local macro_rules | `(tactic| wtm_at "Rz7") => `(tactic| (first | ((with_reducible refine RT.FzLQ.cons ?_)) | fail))
local macro_rules | `(tactic| wtm_at "Rz7") => `(tactic| (first | ((with_reducible refine RT.FzLQ.star ?_)) | fail))
local macro_rules | `(tactic| wtm_at "Rz7") => `(tactic| (first | ((with_reducible refine RT.FzLQ.nil ?_)) | fail))
local macro_rules | `(tactic| wtm_at "Rz8") => `(tactic| (first | (((with_reducible refine' RT.FzQ.pk ?h ?_); (case h => wtm_at "Rn"))) | fail))
local macro_rules | `(tactic| wtm_at "Rz8") => `(tactic| (first | ((with_reducible refine RT.FzQ.fr ?_)) | fail))
local macro_rules | `(tactic| wtm_at "Rz8") => `(tactic| (first | ((with_reducible refine RT.FzQ.fz ?_)) | fail))
local macro_rules | `(tactic| wtm_at "Rz9") => `(tactic| (first | (((with_reducible refine' RT.FpQ.ow ?h ?_); (case h => wtm_at "Rr"))) | fail))
local macro_rules | `(tactic| wtm_at "Rz9") => `(tactic| (first | ((with_reducible refine RT.FpQ.sh ?_)) | fail))
local macro_rules | `(tactic| wtm_at "Rz10") => `(tactic| (first | ((with_reducible refine RT.SvQ.pk ?_)) | fail))
local macro_rules | `(tactic| wtm_at "Rz10") => `(tactic| (first | (((with_reducible refine' RT.SvQ.fr ?g ?h ?_); (case g => wtm_at "Rfre"); (case h => wtm_at "Rr"))) | fail))
local macro_rules | `(tactic| wtm_at "Rz10") => `(tactic| (first | ((with_reducible refine RT.SvQ.fz ?_)) | fail))
local macro_rules | `(tactic| wtm_at "Rz11") => `(tactic| (first | (((with_reducible refine' RT.StQ.fld ?g ?dk ?o ?h ?_); (case g => wtm_at "Rn"); (case dk => decide); (case o => rfl); (case h => wtm_at "Rr"))) | fail))
local macro_rules | `(tactic| wtm_at "Rz11") => `(tactic| (first | ((with_reducible refine RT.StQ.t rfl ?_)) | fail))
local macro_rules | `(tactic| wtm_at "Rz11") => `(tactic| (first | (((with_reducible refine' RT.StQ.v ?g ?h ?_); (case g => wtm_at "Rfre"); (case h => wtm_at "Rr"))) | fail))
local macro_rules | `(tactic| wtm_at "Rz12") => `(tactic| (first | ((with_reducible refine RT.StsQ.cons ?_)) | fail))
local macro_rules | `(tactic| wtm_at "Rz12") => `(tactic| (first | ((with_reducible refine RT.StsQ.nil ?_)) | fail))
local macro_rules | `(tactic| wtm_at "Rz13") => `(tactic| (first | ((with_reducible refine RT.WI.ezp ?_)) | fail))
local macro_rules | `(tactic| wtm_at "Rz13") => `(tactic| (first | ((with_reducible refine RT.WI.zip ?_)) | fail))
local macro_rules | `(tactic| wtm_at "Rz13") => `(tactic| (first | ((with_reducible refine RT.WI.enm ?_)) | fail))
local macro_rules | `(tactic| wtm_at "Rz13") => `(tactic| (first | ((with_reducible refine RT.WI.its ?_)) | fail))
local macro_rules | `(tactic| wtm_at "Rz13") => `(tactic| (first | ((with_reducible refine RT.WI.rng ?_)) | fail))
local macro_rules | `(tactic| wtm_at "Rz14") => `(tactic| (first | (((with_reducible refine' RT.RngQ.dn ?h ?_); (case h => wtm_at "Rside"))) | fail))
local macro_rules | `(tactic| wtm_at "Rz14") => `(tactic| (first | (((with_reducible refine' RT.RngQ.up ?h ?_); (case h => wtm_at "Rside"))) | fail))
local macro_rules | `(tactic| wtm_at "Rz14") => `(tactic| (first | (((with_reducible refine' RT.RngQ.upN ?h ?h2 ?h3 ?_); (case h => wtm_at "Rside"); (case h2 => wtm_at "Rside"); (case h3 => wtm_at "Rside"))) | fail))
local macro_rules | `(tactic| wtm_at "Rz14") => `(tactic| (first | (((with_reducible refine' RT.RngQ.up1 ?h ?h2 ?_); (case h => wtm_at "Rside"); (case h2 => wtm_at "Rside"))) | fail))
local macro_rules | `(tactic| wtm_at "Rz14") => `(tactic| (first | (((with_reducible refine' RT.RngQ.up0 ?h ?h2 ?_); (case h => wtm_at "Rside"); (case h2 => wtm_at "Rside"))) | fail))
local macro_rules | `(tactic| wtm_at "Rz15") => `(tactic| (first | (((with_reducible refine' RT.WkQ.lk ?n ?h ?_); (case n => wtm_at "Rn"); (case h => rfl))) | fail))
local macro_rules | `(tactic| wtm_at "Rz15") => `(tactic| (first | (((with_reducible refine' RT.WkQ.ow ?n ?h ?r ?_); (case n => wtm_at "Rn"); (case h => rfl); (case r => wtm_at "Rr"))) | fail))
local macro_rules | `(tactic| wtm_at "Rz15") => `(tactic| (first | (((with_reducible refine' RT.WkQ.fr ?h ?_); (case h => rfl))) | fail))
local macro_rules | `(tactic| wtm_at "Rz15") => `(tactic| (first | (((with_reducible refine' RT.WkQ.fz ?h ?_); (case h => rfl))) | fail))
local macro_rules | `(tactic| wtm_at "Rz16") => `(tactic| (first | (((with_reducible refine' RT.OwQ.ow ?h ?_); (case h => wtm_at "Rn"))) | fail))
local macro_rules | `(tactic| wtm_at "Rz16") => `(tactic| (first | (((with_reducible refine' RT.OwQ.io ?h ?_); (case h => wtm_at "Rn"))) | fail))
local macro_rules | `(tactic| wtm_at "Rz17") => `(tactic| (first | ((with_reducible refine RT.WO.som ?_)) | fail))
local macro_rules | `(tactic| wtm_at "Rz17") => `(tactic| (first | ((with_reducible refine RT.WO.non ?_)) | fail))
local macro_rules | `(tactic| wtm_at "Rz18") => `(tactic| (first | ((with_reducible refine RT.SlQ.l ?_)) | fail))
local macro_rules | `(tactic| wtm_at "Rz18") => `(tactic| (first | ((with_reducible refine RT.SlQ.t ?_)) | fail))
local macro_rules | `(tactic| wtm_at "Rz19") => `(tactic| (first | ((with_reducible refine RT.RvQ.l ?_)) | fail))
local macro_rules | `(tactic| wtm_at "Rz19") => `(tactic| (first | ((with_reducible refine RT.RvQ.t ?_)) | fail))
local macro_rules | `(tactic| wtm_at "Rz20") => `(tactic| (first | ((with_reducible refine RT.WF.cons ?_)) | fail))
local macro_rules | `(tactic| wtm_at "Rz20") => `(tactic| (first | ((with_reducible refine RT.WF.nil ?_)) | fail))
local macro_rules | `(tactic| wtm_at "Rz21") => `(tactic| (first | ((with_reducible refine RT.PfQ.pk ?_)) | fail))
local macro_rules | `(tactic| wtm_at "Rz21") => `(tactic| (first | ((with_reducible refine RT.PfQ.fr ?_)) | fail))
local macro_rules | `(tactic| wtm_at "Rz21") => `(tactic| (first | ((with_reducible refine RT.PfQ.fz ?_)) | fail))
local macro_rules | `(tactic| wtm_at "Rz22") => `(tactic| (first | ((with_reducible refine RT.SvsQ.cons ?_)) | fail))
local macro_rules | `(tactic| wtm_at "Rz22") => `(tactic| (first | ((with_reducible refine RT.SvsQ.nil ?_)) | fail))
local macro_rules | `(tactic| wtm_at "Rz23") => `(tactic| (first | (((with_reducible refine' RT.WpQ.cons ?h ?_); (case h => wtm_at "Rr"))) | fail))
local macro_rules | `(tactic| wtm_at "Rz23") => `(tactic| (first | ((with_reducible refine RT.WpQ.nil ?_)) | fail))
local macro_rules | `(tactic| wtm_at "Rz24") => `(tactic| (first | (((with_reducible refine' RT.NoQ.cons ?n ?j ?_); (case n => wtm_at "Rn"); (case j => first | with_reducible assumption | exact RT.J.non | exact RT.J.sh))) | fail))
local macro_rules | `(tactic| wtm_at "Rz24") => `(tactic| (first | ((with_reducible refine RT.NoQ.nil ?_)) | fail))
local macro_rules | `(tactic| wtm_at "Rz25") => `(tactic| (first | (((with_reducible refine' RT.BkQ.cons ?n ?h ?_); (case n => wtm_at "Rn"); (case h => wtm_at "Rr"))) | fail))
local macro_rules | `(tactic| wtm_at "Rz25") => `(tactic| (first | ((with_reducible refine RT.BkQ.nil ?_)) | fail))
local macro_rules | `(tactic| wtm_at "Rz26") => `(tactic| (first | (((with_reducible refine' RT.UnQ.cons ?n ?h ?_); (case n => wtm_at "Rn"); (case h => wtm_at "Rr"))) | fail))
local macro_rules | `(tactic| wtm_at "Rz26") => `(tactic| (first | ((with_reducible refine RT.UnQ.capp ?_)) | fail))
local macro_rules | `(tactic| wtm_at "Rz26") => `(tactic| (first | ((with_reducible refine RT.UnQ.napp ?_)) | fail))
local macro_rules | `(tactic| wtm_at "Rz26") => `(tactic| (first | ((with_reducible refine RT.UnQ.nil ?_)) | fail))
local macro_rules | `(tactic| wtm_at "Rz27") => `(tactic| (first | (((with_reducible refine' RT.SkQ.d ?h ?h2 ?_); (case h => rfl); (case h2 => wtm_at "Rside"))) | fail))
local macro_rules | `(tactic| wtm_at "Rz27") => `(tactic| (first | (((with_reducible refine' RT.SkQ.l ?h ?h2 ?_); (case h => wtm_at "Rside"); (case h2 => wtm_at "Rside"))) | fail))
local macro_rules | `(tactic| wtm_at "Rz28") => `(tactic| (first | ((with_reducible refine RT.LnQ.cons ?_)) | fail))
local macro_rules | `(tactic| wtm_at "Rz28") => `(tactic| (first | ((with_reducible refine RT.LnQ.nil ?_)) | fail))
local macro_rules | `(tactic| wtm_at "Rz29") => `(tactic| (first | (((with_reducible refine' RT.LnvQ.pk ?h ?_); (case h => wtm_at "Rn"))) | fail))
local macro_rules | `(tactic| wtm_at "Rz29") => `(tactic| (first | ((with_reducible refine RT.LnvQ.fz ?_)) | fail))
local macro_rules | `(tactic| wtm_at "Rz30") => `(tactic| (first | (((with_reducible refine' RT.LnpQ.ow ?h ?_); (case h => decide))) | fail))
local macro_rules | `(tactic| wtm_at "Rz30") => `(tactic| (first | ((with_reducible refine RT.LnpQ.sh ?_)) | fail))
local macro_rules | `(tactic| wtm_at "Rz31") => `(tactic| (first | ((with_reducible refine RT.WT.cons ?_)) | fail))
local macro_rules | `(tactic| wtm_at "Rz31") => `(tactic| (first | ((with_reducible refine RT.WT.nil ?_)) | fail))
local macro_rules | `(tactic| wtm_at "Rz32") => `(tactic| (first | (((with_reducible apply RT.LcQ.filter); (case hl => wtm_at "Rside"); (case hs => (intro y hy; (try simp only [List.mem_range] at hy); wtm_at "Rgo"; done)))) | fail))
local macro_rules | `(tactic| wtm_at "Rz32") => `(tactic| (first | (((with_reducible apply RT.LcQ.map); (case hl => wtm_at "Rside"); (case hs => (intro y hy; (try simp only [List.mem_range] at hy); wtm_at "Rgo"; done)))) | fail))
local macro_rules | `(tactic| wtm_at "Rz32") => `(tactic| (first | ((with_reducible refine RT.LcQ.enm ?_)) | fail))
local macro_rules | `(tactic| wtm_at "Rz32") => `(tactic| (first | ((with_reducible refine RT.LcQ.zip ?_)) | fail))
local macro_rules | `(tactic| wtm_at "Rz33") => `(tactic| (first | ((with_reducible refine RT.KyQ.s ?_)) | fail))
local macro_rules | `(tactic| wtm_at "Rz33") => `(tactic| (first | ((with_reducible refine RT.KyQ.i ?_)) | fail))
local macro_rules | `(tactic| wtm_at "Rz34") => `(tactic| (first | (((with_reducible apply RT.DcQ.map); (case hl => wtm_at "Rside"); (case hs => (intro y hy; (try simp only [List.mem_range] at hy); wtm_at "Rgo"; done)))) | fail))
local macro_rules | `(tactic| wtm_at "Rz34") => `(tactic| (first | ((with_reducible refine RT.DcQ.enm ?_)) | fail))
local macro_rules | `(tactic| wtm_at "Rz35") => `(tactic| (first | ((with_reducible refine RT.FoQ.ezp ?_)) | fail))
local macro_rules | `(tactic| wtm_at "Rz35") => `(tactic| (first | ((with_reducible refine RT.FoQ.enm ?_)) | fail))
local macro_rules | `(tactic| wtm_at "Rz35") => `(tactic| (first | ((with_reducible refine RT.FoQ.zip ?_)) | fail))
local macro_rules | `(tactic| wtm_at "Rs") => `(tactic| (first | ((with_reducible rfl)) | fail))
local macro_rules | `(tactic| wtm_at "Rs") => `(tactic| (first | (((with_reducible show RT.CR.ok _ _ _ = RT.CR.ok _ _ _); rfl)) | fail))
local macro_rules | `(tactic| wtm_at "Rs") => `(tactic| (first | ((with_reducible refine And.intro rfl ?_)) | fail))
local macro_rules | `(tactic| wtm_at "Rs") => `(tactic| (first | ((with_reducible refine Exists.intro _ (And.intro rfl ?_))) | fail))
local macro_rules | `(tactic| wtm_at "Rs") => `(tactic| (first | ((with_reducible refine RT.fio_exc ?_)) | fail))
local macro_rules | `(tactic| wtm_at "Rs") => `(tactic| (first | (((with_reducible refine' RT.fio_nx ?h ?_); (case h => rfl))) | fail))
local macro_rules | `(tactic| wtm_at "Rs") => `(tactic| (first | (((with_reducible refine' RT.fio_ow ?h ?h2 ?_); (case h => wtm_at "Rn"); (case h2 => rfl))) | fail))
local macro_rules | `(tactic| wtm_at "Rs") => `(tactic| (first | (((with_reducible refine' RT.fio_fr ?h ?_); (case h => rfl))) | fail))
local macro_rules | `(tactic| wtm_at "Rs") => `(tactic| (first | (((with_reducible refine' RT.fio_rt ?h ?_); (case h => rfl))) | fail))
local macro_rules | `(tactic| wtm_at "Rs") => `(tactic| (first | ((with_reducible refine RT.fin_exc ?_)) | fail))
local macro_rules | `(tactic| wtm_at "Rs") => `(tactic| (first | ((with_reducible refine RT.fin_nx ?_)) | fail))
local macro_rules | `(tactic| wtm_at "Rs") => `(tactic| (first | (((with_reducible refine' RT.fin_ow ?h ?_); (case h => wtm_at "Rn"))) | fail))
local macro_rules | `(tactic| wtm_at "Rs") => `(tactic| (first | ((with_reducible refine RT.fin_fr ?_)) | fail))
local macro_rules | `(tactic| wtm_at "Rs") => `(tactic| (first | ((with_reducible refine RT.fin_rt ?_)) | fail))
local macro_rules | `(tactic| wtm_at "Rs") => `(tactic| (first | ((with_reducible refine RT.aft_exc ?_)) | fail))
local macro_rules | `(tactic| wtm_at "Rs") => `(tactic| (first | ((with_reducible refine RT.aft_ct ?_)) | fail))
local macro_rules | `(tactic| wtm_at "Rs") => `(tactic| (first | ((with_reducible refine RT.aft_bk ?_)) | fail))
local macro_rules | `(tactic| wtm_at "Rs") => `(tactic| (first | ((with_reducible refine RT.aft_rt ?_)) | fail))
local macro_rules | `(tactic| wtm_at "Rs") => `(tactic| (first | ((with_reducible refine RT.aft_nx ?_)) | fail))
local macro_rules | `(tactic| wtm_at "Rs") => `(tactic| (first | ((with_reducible refine RT.trn_exc ?_)) | fail))
local macro_rules | `(tactic| wtm_at "Rs") => `(tactic| (first | ((with_reducible refine RT.trn_bk ?_)) | fail))
local macro_rules | `(tactic| wtm_at "Rs") => `(tactic| (first | ((with_reducible refine RT.trn_ct ?_)) | fail))
local macro_rules | `(tactic| wtm_at "Rs") => `(tactic| (first | ((with_reducible refine RT.trn_rt ?_)) | fail))
local macro_rules | `(tactic| wtm_at "Rs") => `(tactic| (first | ((with_reducible refine RT.trn_nx ?_)) | fail))
local macro_rules | `(tactic| wtm_at "Rs") => `(tactic| (first | (((with_reducible show RT.Op _ _); ((with_reducible refine' RT.Op.mk' ?h ?_); (case h => wtm_at "Rop")))) | fail))
local macro_rules | `(tactic| wtm_at "Rs") => `(tactic| (first | (((with_reducible show RT.FoQ _ _ _ _ _ _ _); wtm_at "Rz35")) | fail))
local macro_rules | `(tactic| wtm_at "Rs") => `(tactic| (first | (((with_reducible show RT.DcQ _ _ _ _ _ _ _ _ _ _ _); wtm_at "Rz34")) | fail))
local macro_rules | `(tactic| wtm_at "Rs") => `(tactic| (first | (((with_reducible show RT.KyQ _ _); wtm_at "Rz33")) | fail))
local macro_rules | `(tactic| wtm_at "Rs") => `(tactic| (first | (((with_reducible show RT.LcQ _ _ _ _ _ _ _ _ _ _); wtm_at "Rz32")) | fail))
local macro_rules | `(tactic| wtm_at "Rs") => `(tactic| (first | (((with_reducible show RT.WT _ _ _ _ _ _); wtm_at "Rz31")) | fail))
local macro_rules | `(tactic| wtm_at "Rs") => `(tactic| (first | (((with_reducible show RT.FlQ _ _ _); ((with_reducible refine' RT.FlQ.mk' ?h0 ?h1 ?_); (case h0 => first | rfl | with_reducible assumption | (simp [RT.flatD, RT.flatL, *]; done)); (case h1 => first | rfl | with_reducible assumption | (simp [RT.flatD, RT.flatL, *]; done))))) | fail))
local macro_rules | `(tactic| wtm_at "Rs") => `(tactic| (first | (((with_reducible show RT.LnpQ _ _ _ _); wtm_at "Rz30")) | fail))
local macro_rules | `(tactic| wtm_at "Rs") => `(tactic| (first | (((with_reducible show RT.LnvQ _ _ _ _); wtm_at "Rz29")) | fail))
local macro_rules | `(tactic| wtm_at "Rs") => `(tactic| (first | (((with_reducible show RT.LnQ _ _ _ _); wtm_at "Rz28")) | fail))
local macro_rules | `(tactic| wtm_at "Rs") => `(tactic| (first | (((with_reducible show RT.SkQ _ _ _ _); wtm_at "Rz27")) | fail))
local macro_rules | `(tactic| wtm_at "Rs") => `(tactic| (first | (((with_reducible show RT.UnQ _ _ _); wtm_at "Rz26")) | fail))
local macro_rules | `(tactic| wtm_at "Rs") => `(tactic| (first | (((with_reducible show RT.BkQ _ _ _ _ _); wtm_at "Rz25")) | fail))
local macro_rules | `(tactic| wtm_at "Rs") => `(tactic| (first | (((with_reducible show RT.NoQ _ _ _); wtm_at "Rz24")) | fail))
local macro_rules | `(tactic| wtm_at "Rs") => `(tactic| (first | (((with_reducible show RT.WpQ _ _ _); wtm_at "Rz23")) | fail))
local macro_rules | `(tactic| wtm_at "Rs") => `(tactic| (first | (((with_reducible show RT.SvsQ _ _ _ _); wtm_at "Rz22")) | fail))
local macro_rules | `(tactic| wtm_at "Rs") => `(tactic| (first | (((with_reducible show RT.PfQ _ _ _); wtm_at "Rz21")) | fail))
local macro_rules | `(tactic| wtm_at "Rs") => `(tactic| (first | (((with_reducible show RT.WF _ _ _ _ _ _); wtm_at "Rz20")) | fail))
local macro_rules | `(tactic| wtm_at "Rs") => `(tactic| (first | (((with_reducible show RT.LtmQ _ _); ((with_reducible refine' RT.LtmQ.mk ?h ?_); (case h => wtm_at "Rside")))) | fail))
local macro_rules | `(tactic| wtm_at "Rs") => `(tactic| (first | (((with_reducible show RT.LimQ _ _); ((with_reducible refine' RT.LimQ.mk ?h ?_); (case h => wtm_at "Rside")))) | fail))
local macro_rules | `(tactic| wtm_at "Rs") => `(tactic| (first | (((with_reducible show RT.RvQ _ _); wtm_at "Rz19")) | fail))
local macro_rules | `(tactic| wtm_at "Rs") => `(tactic| (first | (((with_reducible show RT.SlQ _ _ _ _); wtm_at "Rz18")) | fail))
local macro_rules | `(tactic| wtm_at "Rs") => `(tactic| (first | (((with_reducible show RT.WO _ _ _ _ _ _); wtm_at "Rz17")) | fail))
local macro_rules | `(tactic| wtm_at "Rs") => `(tactic| (first | (((with_reducible show RT.LstQ _ _); (with_reducible refine RT.LstQ.mk' ?_))) | fail))
local macro_rules | `(tactic| wtm_at "Rs") => `(tactic| (first | (((with_reducible show RT.PutQ _ _ _ _); ((with_reducible refine' RT.PutQ.mk' ?h ?_); (case h => wtm_at "Rr")))) | fail))
local macro_rules | `(tactic| wtm_at "Rs") => `(tactic| (first | (((with_reducible show RT.OwQ _ _ _); wtm_at "Rz16")) | fail))
local macro_rules | `(tactic| wtm_at "Rs") => `(tactic| (first | (((with_reducible show RT.WkkQ _ _ _ _); (with_reducible refine RT.WkkQ.mk' ?_))) | fail))
local macro_rules | `(tactic| wtm_at "Rs") => `(tactic| (first | (((with_reducible show RT.WkQ _ _ _ _); wtm_at "Rz15")) | fail))
local macro_rules | `(tactic| wtm_at "Rs") => `(tactic| (first | (((with_reducible show RT.RngQ _ _ _ _); wtm_at "Rz14")) | fail))
local macro_rules | `(tactic| wtm_at "Rs") => `(tactic| (first | (((with_reducible show RT.WI _ _ _ _ _ _); wtm_at "Rz13")) | fail))
local macro_rules | `(tactic| wtm_at "Rs") => `(tactic| (first | (((with_reducible show RT.FldQ _ _ _ _); ((with_reducible refine' RT.FldQ.mk' ?h ?_); (case h => rfl)))) | fail))
local macro_rules | `(tactic| wtm_at "Rs") => `(tactic| (first | (((with_reducible show RT.StsQ _ _ _ _); wtm_at "Rz12")) | fail))
local macro_rules | `(tactic| wtm_at "Rs") => `(tactic| (first | (((with_reducible show RT.StQ _ _ _ _); wtm_at "Rz11")) | fail))
local macro_rules | `(tactic| wtm_at "Rs") => `(tactic| (first | (((with_reducible show RT.SvQ _ _ _ _); wtm_at "Rz10")) | fail))
local macro_rules | `(tactic| wtm_at "Rs") => `(tactic| (first | (((with_reducible show RT.InQ _ _); (with_reducible refine RT.InQ.mk' ?_))) | fail))
local macro_rules | `(tactic| wtm_at "Rs") => `(tactic| (first | (((with_reducible show RT.BoQ _ _); (with_reducible refine RT.BoQ.mk' ?_))) | fail))
local macro_rules | `(tactic| wtm_at "Rs") => `(tactic| (first | (((with_reducible show RT.IfQ _ _ _); wtm_at "Rifq")) | fail))
local macro_rules | `(tactic| wtm_at "Rs") => `(tactic| (first | (((with_reducible show RT.ClQ _ _ _ _ _); wtm_at "Rcall")) | fail))
local macro_rules | `(tactic| wtm_at "Rs") => `(tactic| (first | (((with_reducible show RT.FpQ _ _ _ _); wtm_at "Rz9")) | fail))
local macro_rules | `(tactic| wtm_at "Rs") => `(tactic| (first | (((with_reducible show RT.FzQ _ _ _); wtm_at "Rz8")) | fail))
local macro_rules | `(tactic| wtm_at "Rs") => `(tactic| (first | (((with_reducible show RT.FzLQ _ _ _); wtm_at "Rz7")) | fail))
local macro_rules | `(tactic| wtm_at "Rs") => `(tactic| (first | (((with_reducible show RT.BlQ _ _ _); wtm_at "Rblq")) | fail))
local macro_rules | `(tactic| wtm_at "Rs") => `(tactic| (first | (((with_reducible show RT.LksQ _ _ _); wtm_at "Rz6")) | fail))
local macro_rules | `(tactic| wtm_at "Rs") => `(tactic| (first | (((with_reducible show RT.FrLQ _ _); (with_reducible refine RT.FrLQ.mk' ?_))) | fail))
local macro_rules | `(tactic| wtm_at "Rs") => `(tactic| (first | (((with_reducible show RT.IxQ _ _ _); wtm_at "Rz5")) | fail))
local macro_rules | `(tactic| wtm_at "Rs") => `(tactic| (first | (((with_reducible show RT.CmpQ _ _ _ _); wtm_at "Rcmpq")) | fail))
local macro_rules | `(tactic| wtm_at "Rs") => `(tactic| (first | (((with_reducible show RT.BinQ _ _ _ _); wtm_at "Rbinq")) | fail))
local macro_rules | `(tactic| wtm_at "Rs") => `(tactic| (first | (((with_reducible show RT.WB _ _ _ _ _); wtm_at "Rwb")) | fail))
local macro_rules | `(tactic| wtm_at "Rs") => `(tactic| (first | (((with_reducible show RT.VsQ _ _); wtm_at "Rz4")) | fail))
local macro_rules | `(tactic| wtm_at "Rs") => `(tactic| (first | (((with_reducible show RT.WL _ _ _ _ _ _); wtm_at "Rz3")) | fail))
local macro_rules | `(tactic| wtm_at "Rs") => `(tactic| (first | (((with_reducible show RT.LkQ _ _ _); wtm_at "Rz2")) | fail))
local macro_rules | `(tactic| wtm_at "Rs") => `(tactic| (first | (((with_reducible show RT.VaQ _ _ _ _); wtm_at "Rz1")) | fail))
local macro_rules | `(tactic| wtm_at "Rs") => `(tactic| (first | (((with_reducible show RT.WE _ _ _ _ _ _); wtm_at "Rwe")) | fail))
local macro_rules | `(tactic| wtm_at "Rgo") => `(tactic| (repeat' (wtm_at "Rs")))
local macro_rules | `(tactic| wtm_at "Rst") => `(tactic| ((first | (refine' RT.Cs.of ?hG ?hn ?hl ?he ?h; (case hG => rfl)) | (refine' RT.Cs.ofI ?hG ?hn ?hl ?he ?h; (case hG => rfl)) | (refine' RT.CsP.of ?hG ?hn ?hl ?he ?h; (case hG => rfl)) | (refine' RT.CsP.ofI ?hG ?hn ?hl ?he ?h; (case hG => rfl))); (case hn => omega); (case hl => rfl); (case he => wtm_at "Rmk")))
local macro_rules | `(tactic| wtm_at "Rin") => `(tactic| ((first | (refine' RT.Cs.of ?hG ?hn ?hl ?he ?h; (case hG => rfl)) | (refine' RT.Cs.ofI ?hG ?hn ?hl ?he ?h; (case hG => rfl)) | (refine' RT.CsP.of ?hG ?hn ?hl ?he ?h; (case hG => rfl)) | (refine' RT.CsP.ofI ?hG ?hn ?hl ?he ?h; (case hG => rfl))); (case hn => omega); (case hl => rfl); (case he => wtm_at "Rmk"); intro m hm; wtm_at "Rgo"))

namespace RT
open PySem
variable {n : Nat}
/-! SDraw: what a law draws. -/
abbrev spn (s : Int × Int × Int) : D := .lst [.int s.1, .int s.2.1, .int s.2.2]
theorem mul_lt {x y a b : Int} (h0 : 0 ≤ x) (h1 : x < a) (h2 : 0 ≤ y) (h3 : y < b) : 0 ≤ x * y ∧ x * y < a * b := by
  refine ⟨Int.mul_nonneg h0 h2, ?_⟩
  have := Int.mul_le_mul (show x ≤ a - 1 by omega) (show y ≤ b - 1 by omega) h2 (by omega)
  have e : (a - 1) * (b - 1) = a * b - a - b + 1 := by rw [Int.sub_mul, Int.mul_sub, Int.mul_one, Int.one_mul]; omega
  omega
theorem spin_ok (hn : 1 ≤ n) (s : Int × Int × Int) {t : Int} (h0 : 0 < t) (h1 : t < 1073741824) : ∃ k s', 0 ≤ k ∧ k < t ∧ Cs (callF G GK n) 1 [spn s, .int t] (.ok false (.int k) (spn s')) := by
  obtain ⟨a, b, c⟩ := s
  by_cases h : 0 < a
  · refine ⟨a % t, (a / t, b, c), Int.emod_nonneg _ (by omega), Int.emod_lt_of_pos _ h0, ?_⟩
    wtm_at "Rin"
  · have e1 := Int.emod_nonneg (b + 49979687 * (c + 1)) (show (2305843009213693951 : Int) ≠ 0 by decide)
    have e2 := Int.emod_lt_of_pos (b + 49979687 * (c + 1)) (show (0 : Int) < 2305843009213693951 by decide)
    generalize he : (b + 49979687 * (c + 1)) % 2305843009213693951 = one at e1 e2
    refine ⟨((one * one + 137 * (c + 1)) % 2305843009213693921 * 32452843 + one) / 65587 % t, (a, b, c + 1), Int.emod_nonneg _ (by omega), Int.emod_lt_of_pos _ h0, ?_⟩
    subst he
    wtm_at "Rin"
theorem among_ok (hn : 2 ≤ n) (s : Int × Int × Int) {xs : List D} (h0 : xs ≠ []) (h1 : xs.length < 1073741824) : ∃ x s', x ∈ xs ∧ Cs (callF G GK n) 2 [spn s, .lst xs] (.ok false x (spn s')) := by
  have hl : 0 < xs.length := List.length_pos_iff.mpr h0
  obtain ⟨k, s', hk0, hk1, hc⟩ := spin_ok (n := n - 1) (by omega) s (t := xs.length) (by omega) (by omega)
  have hk : k.toNat < xs.length := by omega
  refine ⟨xs[k.toNat], s', List.getElem_mem _, ?_⟩
  wtm_at "Rin"
  rename_i m hm
  obtain rfl : n - 1 = m := by omega
  refine ClQ.fz hc ?_
  wtm_at "Rgo"
theorem amongT_ok (hn : 2 ≤ n) (s : Int × Int × Int) {xs : List D} (h0 : xs ≠ []) (h1 : xs.length < 1073741824) : ∃ x s', x ∈ xs ∧ Cs (callF G GK n) 2 [spn s, .tup xs] (.ok false x (spn s')) := by
  have hl : 0 < xs.length := List.length_pos_iff.mpr h0
  obtain ⟨k, s', hk0, hk1, hc⟩ := spin_ok (n := n - 1) (by omega) s (t := xs.length) (by omega) (by omega)
  have hk : k.toNat < xs.length := by omega
  refine ⟨xs[k.toNat], s', List.getElem_mem _, ?_⟩
  wtm_at "Rin"
  rename_i m hm
  obtain rfl : n - 1 = m := by omega
  refine ClQ.fz hc ?_
  wtm_at "Rgo"
theorem spins_ok (hn : 1 ≤ n) (xs : List Int) (hl : xs.length ≤ 63) (k : Nat) (hk : k ≤ 100) : ∃ s, Cs (callF G GK n) 0 [.sls (xs.map .int), .int k] (.ok true (spn s) .non) := by
  have key : ∃ a b c, Cs (callF G GK n) 0 [.sls (xs.map .int), .int k] (.ok true (.lst [.int a, .int b, .int c]) .non) := by
    by_cases h : k < xs.length
    · obtain ⟨x, hx⟩ : ∃ x, xs[(k : Int).toNat]? = some x := ⟨_, List.getElem?_eq_getElem (by omega)⟩
      refine' ⟨_, _, _, ?h⟩
      case h => wtm_at "Rin"
    · refine' ⟨_, _, _, ?h⟩
      case h => wtm_at "Rin"
  obtain ⟨a, b, c, h⟩ := key
  exact ⟨(a, b, c), h⟩
end RT

namespace RT
open PySem
variable {n : Nat}
/-! SBase: names, base numbers, words. -/
section
variable {q : Nat} [NeZero q]
def fz (a : Fin q) : Int := (a.val : Int)
abbrev zD (a : Fin q) : D := .int (fz a)
abbrev wD (w : List (Fin q)) : D := .tup (w.map zD)
abbrev fldD (q m : Nat) [NeZero q] (low : List (Fin q)) : D := .obj 0 [some (wD low), some (.int m), some (wD (oneL m : List (Fin q))), some (.int q), some (wD (zeroL m : List (Fin q)))]
def zq (x : Int) : Fin q := Fin.ofNat q (x % q).toNat
theorem qpos : 0 < q := Nat.pos_of_neZero q
theorem fz_zq (x : Int) : fz (zq x : Fin q) = x % q := by
  have h0 : (0 : Int) < q := by have := qpos (q := q); omega
  have h1 := Int.emod_nonneg x (Int.ne_of_gt h0)
  have h2 := Int.emod_lt_of_pos x h0
  unfold fz zq
  rw [Fin.ofNat]
  show (((x % q).toNat % q : Nat) : Int) = _
  rw [Nat.mod_eq_of_lt (by omega)]
  omega
theorem fz_inj {a b : Fin q} (h : fz a = fz b) : a = b := Fin.ext (Int.ofNat.inj h)
@[simp] theorem fz_zero (a : Fin q) : fz a = 0 ↔ a = 0 := ⟨fun h => fz_inj (by rw [h]; rfl), fun h => by rw [h]; rfl⟩
@[simp] theorem fz_eq (a b : Fin q) : fz a = fz b ↔ a = b := ⟨fz_inj, fun h => by rw [h]⟩
theorem fz_nn (a : Fin q) : 0 ≤ fz a := Int.natCast_nonneg _
theorem fz_lt (a : Fin q) : fz a < q := Int.ofNat_lt.mpr a.isLt
theorem zq_fz (a : Fin q) : zq (fz a) = a := fz_inj (by rw [fz_zq]; exact Int.emod_eq_of_lt (fz_nn a) (fz_lt a))
theorem fz_add (a b : Fin q) : fz (a + b) = (fz a + fz b) % q := by
  unfold fz; rw [Fin.val_add, Int.natCast_emod, Int.natCast_add]
theorem fz_mul (a b : Fin q) : fz (a * b) = (fz a * fz b) % q := by
  unfold fz; rw [Fin.val_mul]; rw [Int.natCast_emod, Int.natCast_mul]
theorem fz_sub (a b : Fin q) : fz (a - b) = (fz a - fz b) % q := by
  unfold fz
  rw [Fin.val_sub]
  have := b.isLt
  rw [Int.natCast_emod, show ((q - b.val + a.val : Nat) : Int) = (a.val : Int) - b.val + q from by omega, Int.add_emod_right]
theorem zq_add (x y : Int) : (zq (x + y) : Fin q) = zq x + zq y := fz_inj (by rw [fz_add, fz_zq, fz_zq, fz_zq, ← Int.add_emod])
theorem zq_mul (x y : Int) : (zq (x * y) : Fin q) = zq x * zq y := fz_inj (by rw [fz_mul, fz_zq, fz_zq, fz_zq, ← Int.mul_emod])
theorem zq_sub (x y : Int) : (zq (x - y) : Fin q) = zq x - zq y := fz_inj (by rw [fz_sub, fz_zq, fz_zq, fz_zq, ← Int.sub_emod])
theorem emod_fz (x : Int) : x % (q : Int) = fz (zq x : Fin q) := (fz_zq x).symm
end
theorem i64_fz {q : Nat} [NeZero q] (hq : q ≤ 1000) (a : Fin q) : i64 (fz a) = true := i64_of (by have := fz_nn a; omega) (by have := fz_lt a; omega)
theorem deqL_z {q : Nat} [NeZero q] : ∀ (a b : List (Fin q)), deqL (a.map zD) (b.map zD) = decide (a = b)
  | [], [] => rfl
  | [], y :: b => rfl
  | x :: a, [] => rfl
  | x :: a, y :: b => by
    rw [List.map_cons, List.map_cons, deqL, deqL_z a b]
    show (fz x == fz y && decide (a = b)) = _
    by_cases h : x = y
    · subst h; simp
    · rw [show (fz x == fz y) = false from by simpa using h]; simp [h]
theorem deq_w {q : Nat} [NeZero q] (a b : List (Fin q)) : deq (wD a) (wD b) = decide (a = b) := by
  rw [deq]; exact deqL_z a b
theorem plain_z {q : Nat} [NeZero q] (k : Nat) (a : List (Fin q)) : (a.map zD).all (plainD k) = true := by
  rw [List.all_map, List.all_eq_true]
  intro x _
  cases k <;> rfl
theorem deq_l {q : Nat} [NeZero q] (a b : List (Fin q)) : deq (.lst (a.map zD)) (.lst (b.map zD)) = decide (a = b) := by
  rw [deq]; exact deqL_z a b
section
variable {q : Nat} [NeZero q] {a b : List (Fin q)} {kb : Bool → Prop}
theorem cmp_eqw (h : kb (decide (a = b))) : CmpQ .eq (wD a) (wD b) kb := CmpQ.eq (plain_z _ a) (plain_z _ b) (by rw [deq_w]; exact h)
theorem cmp_new (h : kb (decide (a ≠ b))) : CmpQ .ne (wD a) (wD b) kb := CmpQ.ne (plain_z _ a) (plain_z _ b) (by rw [deq_w]; simpa using h)
theorem cmp_eql (h : kb (decide (a = b))) : CmpQ .eq (.lst (a.map zD)) (.lst (b.map zD)) kb := CmpQ.eq (plain_z _ a) (plain_z _ b) (by rw [deq_l]; exact h)
theorem cmp_nel (h : kb (decide (a ≠ b))) : CmpQ .ne (.lst (a.map zD)) (.lst (b.map zD)) kb := CmpQ.ne (plain_z _ a) (plain_z _ b) (by rw [deq_l]; simpa using h)
end
local macro_rules | `(tactic| wtm_at "Rcmpq") => `(tactic| with_reducible first | refine RT.cmp_eqw ?_ | refine RT.cmp_new ?_ | refine RT.cmp_eql ?_ | refine RT.cmp_nel ?_)
/-- a row of ints below q -/
theorem fin_row {q : Nat} [NeZero q] : ∀ {xs : List Int}, (∀ x ∈ xs, 0 ≤ x ∧ x < q) → ∃ w : List (Fin q), xs = w.map fz ∧ w.length = xs.length
  | [], _ => ⟨[], rfl, rfl⟩
  | x :: xs, h => by
    obtain ⟨w, h1, h2⟩ := fin_row (xs := xs) fun y hy => h y (List.mem_cons_of_mem _ hy)
    have hx := h x List.mem_cons_self
    refine ⟨zq x :: w, ?_, by simp [h2]⟩
    rw [List.map_cons, ← h1, fz_zq, Int.emod_eq_of_lt hx.1 hx.2]
theorem is_whole_i (hn : 1 ≤ n) (x : Int) : Cs (callF G GK n) 14 [.int x] (.ok false (.bl true) .non) := by
  wtm_at "Rin"
local macro_rules | `(tactic| wtm_at "Rcall") => `(tactic| refine RT.ClQ.fz (RT.is_whole_i (by omega) _) ?_)
theorem is_within_i (hn : 2 ≤ n) (x a b : Int) : Cs (callF G GK n) 15 [.int x, .int a, .int b] (.ok false (.bl (decide (a ≤ x ∧ x ≤ b))) .non) := by
  wtm_at "Rin" <;> congr 2 <;> simp <;> omega
local macro_rules | `(tactic| wtm_at "Rcall") => `(tactic| refine RT.ClQ.fz (RT.is_within_i (by omega) _ _ _) ?_)
theorem zD_mod {q : Nat} [NeZero q] (x : Nat) : (.int ((x : Int) % (q : Int)) : D) = zD (Fin.ofNat q x) := by
  show D.int _ = D.int _
  congr 1
end RT

namespace RT
open PySem
variable {n : Nat}
/-! SField: fields. -/
local macro_rules | `(tactic| wtm_at "Rcall") => `(tactic| refine RT.ClQ.fz (RT.is_whole_i (by omega) _) ?_)
local macro_rules | `(tactic| wtm_at "Rcall") => `(tactic| refine RT.ClQ.fz (RT.is_within_i (by omega) _ _ _) ?_)
local macro_rules | `(tactic| wtm_at "Ri64") => `(tactic| first | ((with_reducible refine Or.inl (RT.i64_fz ?_ _)) <;> omega) | ((with_reducible refine Or.inr (RT.i64_fz ?_ _)) <;> omega))
section
variable {q : Nat} [NeZero q]
theorem fnl_set {K : Type} [Lean.Grind.CommRing K] {l : List K} {k : Nat} (h : k < l.length) (x : K) : fnl (l.set k x) = fun i => if i = k then x else fnl l i := by
  funext i
  by_cases hi : i < l.length
  · rw [fnl_lt (by rw [List.length_set]; exact hi), List.getElem_set, fnl_lt hi]
    by_cases e : k = i
    · rw [if_pos e, if_pos e.symm]
    · rw [if_neg e, if_neg (Ne.symm e)]
  · rw [fnl_ge (by rw [List.length_set]; omega), fnl_ge (by omega), if_neg (by omega)]
theorem map_set_z {l : List (Fin q)} {k : Nat} {v : Int} {w : Fin q} (h : v = fz w) : (l.map zD).set k (.int v) = (l.set k w).map zD := by
  rw [List.map_set, h]
theorem getElem_fnl {K : Type} [Lean.Grind.CommRing K] {l : List K} {i : Nat} (h : i < l.length) : l[i] = fnl l i := (fnl_lt h).symm
theorem takeL_led {low c left : List (Fin q)} (hp : 0 < low.length) (hl : left.length = c.length) (hc : low.length ≤ c.length) (h : led low.length (monf low) c.length (fnl left) = led low.length (monf low) c.length (fnl c)) (hz : ∀ i, low.length ≤ i → fnl left i = 0) : left.take low.length = ledL low c := by
  refine fnl_inj (by rw [ledL_length, List.length_take]; omega) ?_
  rw [fnl_ledL hp, ← h, led_word (monf_mon hp) hc hz]
  funext i
  by_cases hi : i < low.length
  · rw [fnl_lt (by rw [List.length_take]; omega), List.getElem_take, fnl_lt (by omega)]
  · rw [fnl_ge (by rw [List.length_take]; omega), hz i (by omega)]
end
end RT

namespace RT
open PySem
variable {n : Nat}
local macro_rules | `(tactic| wtm_at "Rcall") => `(tactic| refine RT.ClQ.fz (RT.is_whole_i (by omega) _) ?_)
local macro_rules | `(tactic| wtm_at "Rcall") => `(tactic| refine RT.ClQ.fz (RT.is_within_i (by omega) _ _ _) ?_)
local macro_rules | `(tactic| wtm_at "Ri64") => `(tactic| first | ((with_reducible refine Or.inl (RT.i64_fz ?_ _)) <;> omega) | ((with_reducible refine Or.inr (RT.i64_fz ?_ _)) <;> omega))
section
variable {q : Nat} [NeZero q]
theorem zD_zero : (.int 0 : D) = zD (0 : Fin q) := rfl
theorem deq_z (a : Fin q) : decide (fz a = 0) = decide (a = 0) := by
  congr 1
  exact propext ⟨fun h => fz_inj (by rw [h]; rfl), fun h => by rw [h]; rfl⟩
theorem zD_one (hq : 1 < q) : (.int 1 : D) = zD (1 : Fin q) := by
  show D.int 1 = D.int _
  congr 1
  show (1 : Int) = ((1 % q : Nat) : Int)
  rw [Nat.mod_eq_of_lt hq]; rfl
/-- whether a monic polynomial of a degree divides the monic one with these lower numbers -/
def hasF (low : List (Fin q)) (size : Nat) : Bool := (List.range (q ^ size)).any fun x => (ledL (digL q x size) (low ++ [1])).all fun d => decide (d = 0)
def isFree (low : List (Fin q)) : Bool := !((List.range (low.length / 2)).any fun k => hasF low (k + 1))
/-- the lower numbers of the least free polynomial -/
def leastF (q m : Nat) [NeZero q] : Option (List (Fin q)) := ((List.range (q ^ m - (if 1 < m then q ^ (m - 1) else 0))).map fun k => (digL q ((if 1 < m then q ^ (m - 1) else 0) + k) m).reverse).find? isFree
def optD : Option (List (Fin q)) → D
  | some w => wD w
  | none => .non
end
end RT

namespace RT
open PySem
variable {n : Nat}
local macro_rules | `(tactic| wtm_at "Rcall") => `(tactic| refine RT.ClQ.fz (RT.is_whole_i (by omega) _) ?_)
local macro_rules | `(tactic| wtm_at "Rcall") => `(tactic| refine RT.ClQ.fz (RT.is_within_i (by omega) _ _ _) ?_)
local macro_rules | `(tactic| wtm_at "Ri64") => `(tactic| first | ((with_reducible refine Or.inl (RT.i64_fz ?_ _)) <;> omega) | ((with_reducible refine Or.inr (RT.i64_fz ?_ _)) <;> omega))
section
variable {q : Nat} [NeZero q]
theorem repI_z (m : Nat) : repI (m : Int) [D.int 0] = (zeroL m : List (Fin q)).map zD := by
  unfold repI zeroL
  rw [Int.toNat_natCast, List.map_replicate]
  induction m with
  | zero => rfl
  | succ m ih => rw [List.replicate_succ, List.flatten_cons, ih]; rfl
theorem repI_o {m : Nat} (h : 0 < m) (hq : 1 < q) : [D.int 1] ++ repI ((m : Int) - 1) [D.int 0] = (oneL m : List (Fin q)).map zD := by
  rw [show (m : Int) - 1 = ((m - 1 : Nat) : Int) from by omega, repI_z (q := q)]
  unfold oneL
  rw [List.map_cons, ← zD_one hq]; rfl
/-- a field -/
structure FldOk (q m : Nat) [NeZero q] (low : List (Fin q)) : Prop where
  q1 : 1 < q
  q2 : q ≤ 13
  m0 : 0 < m
  m6 : m ≤ 6
  ll : low.length = m
theorem is_base_z (hn : 3 ≤ n) (a : Fin q) : Cs (callF G GK n) 22 [.int q, zD a] (.ok false (.bl true) .non) := by
  have := fz_nn a; have := fz_lt a
  wtm_at "Rin"
  congr 2; simp; omega
local macro_rules | `(tactic| wtm_at "Rcall") => `(tactic| refine RT.ClQ.fz (RT.is_base_z (by omega) _) ?_)
end
end RT

namespace RT
open PySem
variable {n : Nat}
local macro_rules | `(tactic| wtm_at "Rcmpq") => `(tactic| with_reducible first | refine RT.cmp_eqw ?_ | refine RT.cmp_new ?_ | refine RT.cmp_eql ?_ | refine RT.cmp_nel ?_)
local macro_rules | `(tactic| wtm_at "Rcall") => `(tactic| refine RT.ClQ.fz (RT.is_whole_i (by omega) _) ?_)
local macro_rules | `(tactic| wtm_at "Rcall") => `(tactic| refine RT.ClQ.fz (RT.is_within_i (by omega) _ _ _) ?_)
/-! SRows: rows of base numbers. -/
abbrev rwD {q : Nat} [NeZero q] (A : List (List (Fin q))) : D := .tup (A.map wD)
section
variable {q : Nat} [NeZero q]
theorem zD_axpy (c : Fin q) : ∀ {a b : List (Fin q)}, (a.zip b).map (fun p => D.int ((fz p.1 + fz c * fz p.2) % (q : Int))) = (plusL a (scaleL c b)).map zD
  | [], b => by cases b <;> rfl
  | x :: a, [] => rfl
  | x :: a, y :: b => by
    have ih := zD_axpy c (a := a) (b := b)
    unfold plusL scaleL at ih ⊢
    rw [List.zip_cons_cons, List.map_cons, List.map_cons, List.zipWith_cons_cons, List.map_cons, ih]
    congr 2
    rw [fz_add, fz_mul, Int.add_emod_emod]
theorem at_w {A : List (List (Fin q))} {i : Nat} {z : List (Fin q)} (h : i < A.length) : A[((i : Nat) : Int).toNat]? = some (A.getD i z) := by
  rw [Int.toNat_natCast, List.getD_eq_getElem?_getD, List.getElem?_eq_getElem h]; rfl
theorem deqL_ws : ∀ A B : List (List (Fin q)), deqL (A.map wD) (B.map wD) = decide (A = B)
  | [], [] => by simp [deqL]
  | [], _ :: _ => by simp [deqL]
  | _ :: _, [] => by simp [deqL]
  | x :: a, y :: b => by
    rw [List.map_cons, List.map_cons, deqL, deqL_ws a b, deq_w]
    by_cases h : x = y <;> simp [h]
theorem plain_ws (k : Nat) (A : List (List (Fin q))) : (A.map wD).all (plainD (k + 1)) = true := by
  rw [List.all_map, List.all_eq_true]
  intro x _
  exact plain_z k x
variable {kb : Bool → Prop}
theorem cmp_eqr {A B : List (List (Fin q))} (h : kb (decide (A = B))) : CmpQ .eq (rwD A) (rwD B) kb := CmpQ.eq (plain_ws _ A) (plain_ws _ B) (by rw [deq]; rw [deqL_ws]; exact h)
theorem cmp_ner {A B : List (List (Fin q))} (h : kb (decide (A ≠ B))) : CmpQ .ne (rwD A) (rwD B) kb := CmpQ.ne (plain_ws _ A) (plain_ws _ B) (by rw [deq, deqL_ws]; simpa using h)
end
local macro_rules | `(tactic| wtm_at "Rcmpq") => `(tactic| with_reducible first | refine RT.cmp_eqr ?_ | refine RT.cmp_ner ?_)
end RT

namespace RT
open PySem
variable {n : Nat}
local macro_rules | `(tactic| wtm_at "Rcmpq") => `(tactic| with_reducible first | refine RT.cmp_eqw ?_ | refine RT.cmp_new ?_ | refine RT.cmp_eql ?_ | refine RT.cmp_nel ?_)
local macro_rules | `(tactic| wtm_at "Rcall") => `(tactic| refine RT.ClQ.fz (RT.is_whole_i (by omega) _) ?_)
local macro_rules | `(tactic| wtm_at "Rcall") => `(tactic| refine RT.ClQ.fz (RT.is_within_i (by omega) _ _ _) ?_)
local macro_rules | `(tactic| wtm_at "Rcmpq") => `(tactic| with_reducible first | refine RT.cmp_eqr ?_ | refine RT.cmp_ner ?_)
local macro_rules | `(tactic| wtm_at "Ri64") => `(tactic| first | ((with_reducible refine Or.inl (RT.i64_fz ?_ _)) <;> omega) | ((with_reducible refine Or.inr (RT.i64_fz ?_ _)) <;> omega))
/-! SDrawR: drawn rows. -/
theorem among_n (hn : 2 ≤ n) (s : Int × Int × Int) {xs : List Int} (h0 : xs ≠ []) (h1 : xs.length < 1000) : ∃ x s', x ∈ xs ∧ Cs (callF G GK n) 2 [spn s, .lst (xs.map .int)] (.ok false (.int x) (spn s')) := by
  obtain ⟨d, s', hd, c⟩ := among_ok hn s (xs := xs.map .int) (by simpa using h0) (by simp; omega)
  obtain ⟨x, hx, rfl⟩ := List.mem_map.mp hd
  exact ⟨x, s', hx, c⟩
section
variable {q : Nat} [NeZero q]
theorem spin_zr (hn : 1 ≤ n) (s : Int × Int × Int) (hq : q ≤ 1000) : ∃ (a : Fin q) (s' : Int × Int × Int), Cs (callF G GK n) 1 [spn s, .int q] (.ok false (zD a) (spn s')) := by
  have q0 := qpos (q := q)
  obtain ⟨k, s', h0, h1, c⟩ := spin_ok (n := n) hn s (t := q) (by omega) (by omega)
  refine ⟨zq k, s', ?_⟩
  show Cs _ _ _ (.ok false (.int (fz (zq k : Fin q))) _)
  rw [fz_zq, Int.emod_eq_of_lt h0 h1]
  exact c
theorem flat_z : ∀ w : List (Fin q), flatL (w.map zD) = true
  | [] => rfl
  | x :: w => by show (true && flatL (w.map zD)) = true; rw [flat_z w]; rfl
theorem flat_w (w : List (Fin q)) : flatD (wD w) = true := flat_z w
theorem law_row_ok (hn : 3 ≤ n) (q1 : 1 < q) (q13 : q ≤ 13) (s0 : Int × Int × Int) (m : Nat) (hm : m ≤ 1000) : ∃ (w : List (Fin q)) (s' : Int × Int × Int), w.length = m ∧ Cs (callF G GK n) 36 [spn s0, .int q, .int m] (.ok false (wD w) (spn s')) := by
  suffices hh : CsP (callF G GK n) 36 [spn s0, .int q, .int m] (fun r => ∃ x : {w : List (Fin q) // w.length = m} × (Int × Int × Int), r = .ok false (wD x.1.1) (spn x.2) ∧ True) by
    obtain ⟨⟨⟨w, e⟩, s'⟩, c, _⟩ := hh.ex
    exact ⟨w, s', e, c⟩
  wtm_at "Rst"
  intro k hk
  wtm_at "Rgo"
  refine LcQ.inv (fun l r ds e => ∃ (s : Int × Int × Int) (w : List (Fin q)), e = [some (.io, spn s), some (.sh, .int q), some (.sh, .int m), none] ∧ ds = w.map zD ∧ w.length = l.length) ⟨s0, [], rfl, rfl, rfl⟩ ?_ ?_
  · rintro l i r ds e hl ⟨s, w, rfl, rfl, hw⟩
    have := split_at hl
    rw [List.length_range, Int.toNat_natCast] at this
    wtm_at "Rgo"
    obtain ⟨a, s1, c1⟩ := spin_zr (q := q) (n := k) (by omega) s (by omega)
    refine ClQ.fz c1 ?_
    wtm_at "Rgo"
    obtain ⟨b, s2, c2⟩ := spin_zr (q := q) (n := k) (by omega) s1 (by omega)
    refine ClQ.fz c2 ?_
    wtm_at "Rgo"
    obtain ⟨x, s3, hx, c3⟩ := among_ok (n := k) (by omega) s2 (xs := [.int 0, zD a, zD b]) (by simp) (by simp)
    refine ClQ.fz c3 ?_
    wtm_at "Rgo"
    have hz : ∃ c : Fin q, x = zD c := by
      simp only [List.mem_cons, List.not_mem_nil, or_false] at hx
      rcases hx with rfl | rfl | rfl
      · exact ⟨0, rfl⟩
      · exact ⟨a, rfl⟩
      · exact ⟨b, rfl⟩
    obtain ⟨c, rfl⟩ := hz
    exact ⟨s3, w ++ [c], rfl, by rw [List.map_append]; rfl, by simp [hw]⟩
  · rintro ds e ⟨s, w, rfl, rfl, hw⟩
    rw [List.length_range, Int.toNat_natCast] at hw
    wtm_at "Rgo"
    exact ⟨(⟨w, hw⟩, s), rfl, trivial⟩
theorem law_rows_ok (hn : 4 ≤ n) (q1 : 1 < q) (q13 : q ≤ 13) (s0 : Int × Int × Int) (many m : Nat) (hy : many ≤ 1000) (hm : m ≤ 1000) : ∃ (A : List (List (Fin q))) (s' : Int × Int × Int), A.length = many ∧ (∀ r ∈ A, r.length = m) ∧ Cs (callF G GK n) 103 [spn s0, .int q, .int many, .int m] (.ok false (rwD A) (spn s')) := by
  suffices hh : CsP (callF G GK n) 103 [spn s0, .int q, .int many, .int m] (fun r => ∃ x : {A : List (List (Fin q)) // A.length = many ∧ ∀ r ∈ A, r.length = m} × (Int × Int × Int), r = .ok false (rwD x.1.1) (spn x.2) ∧ True) by
    obtain ⟨⟨⟨w, e⟩, s'⟩, c, _⟩ := hh.ex
    exact ⟨w, s', e.1, e.2, c⟩
  wtm_at "Rst"
  intro k hk
  wtm_at "Rgo"
  refine FoQ.invM (fun l r e => ∃ (s : Int × Int × Int) (A : List (List (Fin q))) (s5 s6 s7 s8 s9 : Slot), e = [some (.io, spn s), some (.sh, .int q), some (.sh, .int many), some (.sh, .int m), some (.ow, .lst (A.map wD)), s5, s6, s7, s8, s9, none, none] ∧ A.length = l.length ∧ (∀ r ∈ A, r.length = m) ∧ J s5 ∧ J s6 ∧ J s7 ∧ J s8 ∧ J s9) ⟨s0, [], _, _, _, _, _, rfl, rfl, (by simp), .non, .non, .non, .non, .non⟩ ?_ ?_
  · rintro l i r e hl ⟨s, A, s5, s6, s7, s8, s9, rfl, hA, hr, j5, j6, j7, j8, j9⟩
    have hl2 := split_at hl
    rw [List.length_range, Int.toNat_natCast] at hl2
    obtain ⟨w, s1, hw, c1⟩ := law_row_ok (n := k) (by omega) q1 q13 s m hm
    have add : ∀ v : List (Fin q), v.length = m → ∀ r ∈ A ++ [v], r.length = m := fun v hv r h => by
      rcases List.mem_append.mp h with h | h
      · exact hr r h
      · rw [List.mem_singleton.mp h]; exact hv
    have ap : ∀ v : List (Fin q), A.map wD ++ [wD v] = (A ++ [v]).map wD := fun v => by rw [List.map_append]; rfl
    wtm_at "Rgo"
    refine ClQ.fz c1 ?_
    wtm_at "Rgo"
    · obtain ⟨a, s2, a0, a1, c2⟩ := spin_ok (n := k) (by omega) s1 (t := 3) (by omega) (by omega)
      refine ClQ.fz c2 ?_
      wtm_at "Rgo"
      · obtain ⟨x, s3, hx, c3⟩ := among_ok (n := k) (by omega) s2 (xs := A.map wD) (by intro h; simp at *; subst h; simp at *) (by simp; omega)
        obtain ⟨x, hxa, rfl⟩ := List.mem_map.mp hx
        refine ClQ.fz c3 ?_
        have fx := flat_w x
        wtm_at "Rgo"
        obtain ⟨y, s4, hy, c4⟩ := among_ok (n := k) (by omega) s3 (xs := A.map wD) (by intro h; simp at *; subst h; simp at *) (by simp; omega)
        obtain ⟨y, hya, rfl⟩ := List.mem_map.mp hy
        refine ClQ.fz c4 ?_
        have fy := flat_w y
        wtm_at "Rgo"
        obtain ⟨c, s5, c5⟩ := spin_zr (q := q) (n := k) (by omega) s4 (by omega)
        refine ClQ.fz c5 ?_
        have hx := hr x hxa
        have hy := hr y hya
        wtm_at "Rgo"
        rw [zD_axpy]
        have e1 : A.map wD ++ [D.tup ((plusL x (scaleL c y)).map zD)] = (A ++ [plusL x (scaleL c y)]).map wD := ap _
        rw [e1]
        exact ⟨s5, _, _, _, _, _, _, rfl, by simp [hA], add _ (by rw [plusL_length (by rw [scaleL_len]; exact hx.trans hy.symm), scaleL_len]; exact hy), .sh, .sh, .sh, .sh, .sh⟩
      · rw [ap]
        exact ⟨s2, _, _, _, _, _, _, rfl, by simp [hA], add w hw, .sh, .sh, j7, j8, j9⟩
    · rw [ap]
      exact ⟨s1, _, _, _, _, _, _, rfl, by simp [hA], add w hw, .sh, .sh, j7, j8, j9⟩
  · rintro e ⟨s, A, s5, s6, s7, s8, s9, rfl, hA, hr, j5, j6, j7, j8, j9⟩
    rw [List.length_range, Int.toNat_natCast] at hA
    wtm_at "Rgo"
    exact ⟨(⟨A, hA, hr⟩, s), rfl, trivial⟩
end
end RT

namespace RT
open PySem
variable {n : Nat}
local macro_rules | `(tactic| wtm_at "Rcmpq") => `(tactic| with_reducible first | refine RT.cmp_eqw ?_ | refine RT.cmp_new ?_ | refine RT.cmp_eql ?_ | refine RT.cmp_nel ?_)
local macro_rules | `(tactic| wtm_at "Rcall") => `(tactic| refine RT.ClQ.fz (RT.is_whole_i (by omega) _) ?_)
local macro_rules | `(tactic| wtm_at "Rcall") => `(tactic| refine RT.ClQ.fz (RT.is_within_i (by omega) _ _ _) ?_)
local macro_rules | `(tactic| wtm_at "Ri64") => `(tactic| first | ((with_reducible refine Or.inl (RT.i64_fz ?_ _)) <;> omega) | ((with_reducible refine Or.inr (RT.i64_fz ?_ _)) <;> omega))
local macro_rules | `(tactic| wtm_at "Rcall") => `(tactic| refine RT.ClQ.fz (RT.is_base_z (by omega) _) ?_)
local macro_rules | `(tactic| wtm_at "Rcmpq") => `(tactic| with_reducible first | refine RT.cmp_eqr ?_ | refine RT.cmp_ner ?_)
local macro_rules | `(tactic| wtm_at "Ri64") => `(tactic| first | ((with_reducible refine Or.inl (RT.i64_fz ?_ _)) <;> omega) | ((with_reducible refine Or.inr (RT.i64_fz ?_ _)) <;> omega))
/-! SRank: echelons and ranks of base rows. -/
section
variable {q : Nat} [NeZero q]
def fpq (x : Fin q) : Nat → Fin q
  | 0 => 1
  | k + 1 => fpq x k * x
def ivF (x : Fin q) : Fin q := fpq x (q - 2)
end
theorem iv2 : ∀ x : Fin 2, x ≠ 0 → fpq x 0 * x = 1 := by decide +kernel
theorem iv3 : ∀ x : Fin 3, x ≠ 0 → fpq x 1 * x = 1 := by decide +kernel
theorem iv5 : ∀ x : Fin 5, x ≠ 0 → fpq x 3 * x = 1 := by decide +kernel
theorem iv7 : ∀ x : Fin 7, x ≠ 0 → fpq x 5 * x = 1 := by decide +kernel
theorem iv11 : ∀ x : Fin 11, x ≠ 0 → fpq x 9 * x = 1 := by decide +kernel
theorem iv13 : ∀ x : Fin 13, x ≠ 0 → fpq x 11 * x = 1 := by decide +kernel
section
variable {q : Nat} [NeZero q]
theorem ivF_ok (hq : q ∈ [2, 3, 5, 7, 11, 13]) (x : Fin q) (h : x ≠ 0) : ivF x * x = 1 := by
  simp only [List.mem_cons, List.not_mem_nil, or_false] at hq
  rcases hq with rfl | rfl | rfl | rfl | rfl | rfl
  · exact iv2 x h
  · exact iv3 x h
  · exact iv5 x h
  · exact iv7 x h
  · exact iv11 x h
  · exact iv13 x h
theorem one_ne (hq : 1 < q) : (1 : Fin q) ≠ 0 := fun h => by
  have := congrArg Fin.val h
  have e : ((1 : Fin q)).val = 1 % q := rfl
  rw [e, Nat.mod_eq_of_lt hq, show ((0 : Fin q)).val = 0 % q from rfl, Nat.zero_mod] at this
  cases this
theorem fz_one (hq : 1 < q) : fz (1 : Fin q) = 1 := by
  show (((1 : Fin q)).val : Int) = 1
  have e : ((1 : Fin q)).val = 1 % q := rfl
  rw [e, Nat.mod_eq_of_lt hq]; rfl
theorem filter_one {p : Nat → Bool} {j : Nat} : ∀ {m : Nat}, j < m → (∀ k, k < m → (p k = true ↔ k = j)) → (List.range m).filter p = [j]
  | 0, h, _ => absurd h (Nat.not_lt_zero j)
  | m + 1, h, hp => by
    rw [List.range_succ, List.filter_append]
    by_cases e : j = m
    · subst e
      have e1 : (List.range j).filter p = [] := List.filter_eq_nil_iff.mpr fun k hk hh => by
        have hk := List.mem_range.mp hk
        have := (hp k (by omega)).mp hh
        omega
      have e2 : p j = true := (hp j (by omega)).mpr rfl
      rw [e1, List.filter_cons, e2]; rfl
    · rw [filter_one (by omega) fun k hk => hp k (by omega)]
      have e2 : p m = false := by
        cases hm : p m with
        | false => rfl
        | true => exact absurd ((hp m (by omega)).mp hm).symm e
      rw [List.filter_cons, e2]; rfl
abbrev lwD (w : List (Fin q)) : D := .lst (w.map zD)
abbrev prD (p : Nat × List (Fin q)) : D := .tup [.int p.1, wD p.2]
abbrev plD (p : Nat × List (Fin q)) : D := .tup [.int p.1, lwD p.2]
theorem zD_clr (c : Fin q) : ∀ {a b : List (Fin q)}, (a.zip b).map (fun p => D.int ((fz p.1 - fz c * fz p.2) % (q : Int))) = (List.zipWith (fun a b => a - c * b) a b).map zD
  | [], b => by cases b <;> rfl
  | x :: a, [] => rfl
  | x :: a, y :: b => by
    have ih := zD_clr c (a := a) (b := b)
    rw [List.zip_cons_cons, List.map_cons, List.zipWith_cons_cons, List.map_cons, ih]
    congr 2
    rw [fz_sub, fz_mul, Int.sub_emod_emod]
theorem at_fnl {r : List (Fin q)} {c : Nat} (h : c < r.length) : r[((c : Nat) : Int).toNat]? = some (fnl r c) := by
  rw [Int.toNat_natCast, List.getElem?_eq_getElem h, fnl_lt h]
/-- the first spot -/
theorem spots {α : Type} (P : α → Bool) : ∀ (A : List α) (k : Nat), (A.findIdx? P = none → ((A.zipIdx k).filter fun y => P y.1) = []) ∧ ∀ i, A.findIdx? P = some i → ∃ r, ((A.zipIdx k).filter fun y => P y.1).map (·.2) = (i + k) :: r
  | [], k => ⟨fun _ => rfl, fun i h => by simp at h⟩
  | x :: A, k => by
    obtain ⟨h1, h2⟩ := spots P A (k + 1)
    rw [List.findIdx?_cons, List.zipIdx_cons, List.filter_cons]
    cases hp : P x with
    | true =>
      simp only [hp, if_true]
      refine ⟨fun h => (by cases h), fun i h => ?_⟩
      cases h
      exact ⟨_, by rw [List.map_cons, Nat.zero_add]⟩
    | false =>
      simp only [hp, Bool.false_eq_true, if_false]
      refine ⟨fun h => h1 (by simpa using h), fun i h => ?_⟩
      obtain ⟨j, hj, rfl⟩ := Option.map_eq_some_iff.mp h
      obtain ⟨r, hr⟩ := h2 j hj
      exact ⟨r, by rw [hr]; congr 1; omega⟩
theorem law_turned_ok (hn : 1 ≤ n) (hq : q ∈ [2, 3, 5, 7, 11, 13]) (q1 : 1 < q) (q13 : q ≤ 13) (a : Fin q) (h : a ≠ 0) : Cs (callF G GK n) 106 [.int q, zD a] (.ok false (zD (ivF a)) .non) := by
  have hiv := ivF_ok hq a h
  have e1 : ((q : Int) - 1).toNat = q - 1 := by omega
  have key : ∀ k : Nat, k + 1 < q → ((fz a * ((k + 1 : Nat) : Int)) % (q : Int) = 1 ↔ k + 1 = (ivF a).val) := fun k hk => by
    have ek : ((k + 1 : Nat) : Int) = fz (Fin.ofNat q (k + 1)) := by
      unfold fz
      rw [Fin.ofNat]
      show ((k + 1 : Nat) : Int) = (((k + 1) % q : Nat) : Int)
      rw [Nat.mod_eq_of_lt hk]
    rw [ek, ← fz_mul, ← fz_one q1, fz_eq]
    have ev : (Fin.ofNat q (k + 1)).val = k + 1 := by rw [Fin.ofNat]; exact Nat.mod_eq_of_lt hk
    constructor
    · intro hh
      have : Fin.ofNat q (k + 1) = ivF a := by
        have h3 : Fin.ofNat q (k + 1) = ivF a * a * Fin.ofNat q (k + 1) := by rw [hiv]; grind
        rw [h3, show ivF a * a * Fin.ofNat q (k + 1) = ivF a * (a * Fin.ofNat q (k + 1)) from by grind, hh]; grind
      rw [← this, ev]
    · intro hh
      have : Fin.ofNat q (k + 1) = ivF a := Fin.ext (by rw [ev]; exact hh)
      rw [this]; grind
  have i0 : ivF a ≠ 0 := fun h0 => by
    rw [h0] at hiv
    exact one_ne q1 (by rw [← hiv]; grind)
  have i1 : (ivF a).val ≠ 0 := fun h1 => i0 (Fin.ext (by rw [h1]; rfl))
  have i2 : ((ivF a).val - 1) + 1 = (ivF a).val := by omega
  have i3 := (ivF a).isLt
  have hf : (List.range ((q : Int) - 1).toNat).filter (fun y => decide (fz a * ((y + 1 : Nat) : Int) % (q : Int) = 1)) = [(ivF a).val - 1] := by
    refine filter_one (by omega) fun k hk => ?_
    rw [decide_eq_true_eq, key k (by omega)]
    omega
  wtm_at "Rin"
  all_goals rw [hf]
  all_goals simp only [List.map_cons, List.map_nil, i2]
  all_goals wtm_at "Rgo"
theorem law_cleared_ok (hn : 1 ≤ n) (q1 : 1 < q) (q13 : q ≤ 13) (r f : List (Fin q)) (c : Nat) (hl : r.length = f.length) (hc : c < r.length) (hr : r.length ≤ 1000) : Cs (callF G GK n) 107 [.int q, wD r, wD f, .int c] (.ok false (wD (clr r f c)) .non) := by
  have ha := at_fnl hc
  wtm_at "Rin"
  rw [zD_clr]; rfl
theorem inverse_of_ok (hn : 1 ≤ n) (q1 : 1 < q) (q13 : q ≤ 13) (a : Fin q) : Cs (callF G GK n) 89 [.int q, zD a] (.ok false (zD (ivF a)) .non) := by
  wtm_at "Rst"
  intro k hk
  wtm_at "Rgo"
  refine FoQ.invM (fun l r e => ∃ (x : Fin q) (s3 : Slot), e = [some (.sh, .int q), some (.sh, zD a), some (.sh, zD x), s3] ∧ x = fpq a l.length ∧ J s3) ⟨1, _, by rw [← zD_one q1], rfl, .non⟩ ?_ ?_
  · rintro l i r e hl ⟨x, s3, rfl, hx, j3⟩
    wtm_at "Rgo"
    refine ⟨x * a, some (.sh, .int i), by rw [← fz_mul], by rw [List.length_append, List.length_singleton, fpq, hx], .sh⟩
  · rintro e ⟨x, s3, rfl, hx, j3⟩
    wtm_at "Rgo"
    rw [hx, List.length_range, ivF, show ((q : Int) - 2).toNat = q - 2 from by omega]
theorem cleared_ok (hn : 1 ≤ n) (q1 : 1 < q) (q13 : q ≤ 13) (r f : List (Fin q)) (c : Nat) (hl : r.length = f.length) (hc : c < r.length) (hr : r.length ≤ 1000) : ∃ b, Cs (callF G GK n) 90 [.int q, lwD r, lwD f, .int c] (.ok b (lwD (clr r f c)) .non) := by
  have ha := at_fnl hc
  by_cases h0 : fnl r c = 0
  · refine ⟨false, ?_⟩
    have e0 : fz (fnl r c) = 0 := by rw [h0]; rfl
    have ec : clr r f c = r := by
      unfold clr
      rw [h0]
      refine fnl_inj (by rw [List.length_zipWith]; omega) ?_
      rw [fnl_zipWith (by grind) hl]
      funext j; grind
    wtm_at "Rin"
    rw [ec]
  · refine ⟨true, ?_⟩
    have e0 : ¬ fz (fnl r c) = 0 := fun h => h0 ((fz_zero _).mp h)
    wtm_at "Rin"
    rw [zD_clr]; rfl
theorem columns_ok (hn : 1 ≤ n) (m : Nat) (A : List (List (Fin q))) (hA : ∀ r ∈ A, r.length = m) (hl : A.length ≤ 1000) (hm : m ≤ 1000) : Cs (callF G GK n) 88 [rwD A] (.ok false (.int ((if A = [] then 0 else m : Nat))) .non) := by
  cases A with
  | nil => wtm_at "Rin"
  | cons r A =>
    have hr := hA r List.mem_cons_self
    rw [List.length_cons] at hl
    wtm_at "Rin"
    all_goals (show CR.ok false (.int ((r.length : Nat) : Int)) .non = _; rw [hr, if_neg (by simp)])
theorem columns_okL (hn : 1 ≤ n) (m : Nat) (A : List (List (Fin q))) (hA : ∀ r ∈ A, r.length = m) (hl : A.length ≤ 1000) (hm : m ≤ 1000) : Cs (callF G GK n) 88 [.lst (A.map lwD)] (.ok false (.int ((if A = [] then 0 else m : Nat))) .non) := by
  cases A with
  | nil => wtm_at "Rin"
  | cons r A =>
    have hr := hA r List.mem_cons_self
    rw [List.length_cons] at hl
    wtm_at "Rin"
    all_goals (show CR.ok false (.int ((r.length : Nat) : Int)) .non = _; rw [hr, if_neg (by simp)])
theorem eraseIdx_mp {α β : Type} (f : α → β) : ∀ (l : List α) (i : Nat), (l.map f).eraseIdx i = (l.eraseIdx i).map f
  | [], _ => rfl
  | x :: l, 0 => rfl
  | x :: l, i + 1 => by rw [List.map_cons, List.eraseIdx_cons_succ, List.eraseIdx_cons_succ, List.map_cons, eraseIdx_mp f l i]
theorem zD_sc (a : Fin q) (x : List (Fin q)) : x.map (fun y => D.int (fz a * fz y % (q : Int))) = (scaleL a x).map zD := by
  unfold scaleL
  rw [List.map_map]
  refine List.map_congr_left fun y _ => ?_
  rw [← fz_mul]; rfl
theorem rng_at {l r : List Nat} {c m : Nat} (h : l ++ c :: r = List.range ((m : Nat) : Int).toNat) : c = l.length ∧ c < m := by
  rw [Int.toNat_natCast] at h
  have h1 : (List.range m)[l.length]? = some c := by rw [← h]; simp
  obtain ⟨h2, h3⟩ := List.getElem?_eq_some_iff.mp h1
  rw [List.getElem_range] at h3
  rw [List.length_range] at h2
  exact ⟨h3.symm, by omega⟩
theorem ledC_nil (c : Nat) : ledC (ivF (q := q)) c [] = ([], []) := by
  induction c with
  | zero => rfl
  | succ c ih => rw [ledC_succ, ih]; rfl
theorem law_leads_ok (hn : 2 ≤ n) (hq : q ∈ [2, 3, 5, 7, 11, 13]) (q1 : 1 < q) (q13 : q ≤ 13) (m : Nat) (A : List (List (Fin q))) (hA : ∀ r ∈ A, r.length = m) (hl : A.length ≤ 1000) (hm : m ≤ 1000) : Cs (callF G GK n) 108 [.int q, rwD A] (.ok true (.lst ((echL ivF m A).map prD)) .non) := by
  wtm_at "Rst"
  intro k hk
  generalize hB : ([.set (.v 5) _, .ite _ _ _] : List S) = B
  by_cases hz : A = []
  · subst hz
    rw [show echL (ivF (q := q)) m [] = [] from by unfold echL; rw [ledC_nil]]
    wtm_at "Rgo"
    all_goals (refine FoQ.inv (fun l e => l = [] ∧ e = [some (.sh, .int q), some (.sh, rwD (q := q) []), none, some (.ow, .lst []), some (.ow, .lst []), none, none, none, none, none, none, none]) ⟨rfl, rfl⟩ ?_ ?_)
    all_goals first
      | (rintro x xs e ⟨h, -⟩; cases h; done)
      | (rintro e ⟨-, rfl⟩; wtm_at "Rgo")
    all_goals trace_state
  · have hp : 0 < A.length := List.length_pos_iff.mpr hz
    wtm_at "Rgo"
    all_goals rw [hA _ (List.getElem_mem _)]
    all_goals wtm_at "Rgo"
    refine FoQ.invM (fun l r e => ∃ sc s5 s6 s7, e = [some (.sh, .int q), some (.sh, rwD A), sc, some (.ow, .lst ((ledC ivF l.length A).2.map wD)), some (.ow, .lst ((ledC ivF l.length A).1.map prD)), s5, s6, s7, none, none, none, none] ∧ J sc ∧ Jo s5 ∧ Jo s6 ∧ Jo s7) ⟨none, none, none, none, rfl, .non, .non, .non, .non⟩ ?_ ?_
    · rintro l c r e hl' ⟨sc, s5, s6, s7, rfl, jc, j5, j6, j7⟩
      obtain ⟨hc, hcm⟩ := rng_at hl'
      have hL := Led.all (ivF_ok hq) hA c (by omega)
      rw [List.length_append, List.length_singleton, ← hc, ledC_succ]
      generalize hst : ledC (ivF (q := q)) c A = st at *
      obtain ⟨L, R⟩ := st
      have hR := hL.rws
      have hLl := hL.ech.len
      have hcnt := hL.cnt
      simp only [] at hR hLl hcnt
      obtain ⟨sp1, sp2⟩ := spots (fun r => decide (fnl r c ≠ 0)) R 0
      have el : ∀ F : List (List (Fin q) × Nat), F.map (fun y => D.int (y.2 : Int)) = (F.map (·.2)).map (fun k : Nat => D.int (k : Int)) := fun F => by rw [List.map_map]; rfl
      subst hB
      wtm_at "Rgo"
      refine LcQ.filter (fun y => decide (fnl y.1 c ≠ 0)) (fun y => .int (y.2 : Int)) (by rw [List.length_zipIdx]; show R.length ≤ lim; unfold lim; omega) (fun y hy => ?_) ?_
      · have hy1 := hR _ (List.fst_mem_of_mem_zipIdx hy)
        have ha := at_fnl (r := y.1) (c := c) (by omega)
        wtm_at "Rgo"
        all_goals refine ⟨by simp [fz_zero], ?_⟩
        all_goals wtm_at "Rgo"
      · unfold stpC
        cases hf : R.findIdx? (fun r => decide (fnl r c ≠ 0)) with
        | none =>
          rw [sp1 hf]
          wtm_at "Rgo"
          all_goals exact ⟨_, _, _, _, rfl, .sh, .ow, j6, j7⟩
        | some i =>
          obtain ⟨rr, hrr⟩ := sp2 i hf
          obtain ⟨hi, hpi, -⟩ := List.findIdx?_eq_some_iff_getElem.mp hf
          rw [el, hrr, List.map_cons, Nat.add_zero]
          have hg : R.getD i [] = R[i] := by rw [List.getD_eq_getElem?_getD, List.getElem?_eq_getElem hi]; rfl
          have ho : (R.map (wD (q := q)))[((i : Nat) : Int).toNat]? = some (wD R[i]) := by rw [Int.toNat_natCast, List.getElem?_map, List.getElem?_eq_getElem hi]; rfl
          have he : (R.map (wD (q := q))).eraseIdx ((i : Nat) : Int).toNat = (R.eraseIdx i).map wD := by rw [Int.toNat_natCast, eraseIdx_mp]
          have m0 := hR _ (List.getElem_mem hi)
          simp only [hg]
          generalize R[i] = f0 at *
          have ha0 := at_fnl (r := f0) (c := c) (by omega)
          have hne : fnl f0 c ≠ 0 := by simpa using hpi
          have hsc := scaleL_len (ivF (fnl f0 c)) f0
          have hE : ∀ y ∈ R.eraseIdx i, y.length = m := fun y hy => hR y (List.mem_of_mem_eraseIdx hy)
          have hEl : (R.eraseIdx i).length ≤ 1000 := by have := List.length_eraseIdx_le R i; omega
          wtm_at "Rgo"
          all_goals refine ⟨by omega, by omega, Op.mk' ho ?_⟩
          all_goals rw [he]
          all_goals wtm_at "Rgo"
          all_goals refine ClQ.fz (law_turned_ok (by omega) hq q1 q13 _ hne) ?_
          all_goals wtm_at "Rgo"
          all_goals rw [zD_sc]
          all_goals generalize scaleL (ivF (fnl f0 c)) f0 = f at *
          all_goals refine LcQ.map (fun y => wD (clr y f c)) (by unfold lim; omega) (fun y hy => ?_) ?_
          all_goals first
            | (have hy1 := hE y hy
               wtm_at "Rgo"
               refine ClQ.fz (law_cleared_ok (by omega) q1 q13 y f c (by omega) (by omega) (by omega)) ?_
               wtm_at "Rgo"
               done)
            | skip
          all_goals wtm_at "Rgo"
          all_goals refine LcQ.map (fun p => prD (p.1, clr p.2 f c)) (by unfold lim; omega) (fun p hy => ?_) ?_
          all_goals first
            | (have hy1 := hLl p hy
               wtm_at "Rgo"
               refine ClQ.fz (law_cleared_ok (by omega) q1 q13 p.2 f c (by omega) (by omega) (by omega)) ?_
               wtm_at "Rgo"
               done)
            | skip
          all_goals wtm_at "Rgo"
          all_goals rw [show (R.eraseIdx i).map (fun y => wD (clr y f c)) = ((R.eraseIdx i).map fun r => clr r f c).map wD from by rw [List.map_map]; rfl,
            show L.map (fun p => prD (p.1, clr p.2 f c)) ++ [D.tup [.int c, .tup (f.map zD)]] = (L.map (fun p => (p.1, clr p.2 f c)) ++ [(c, f)]).map prD from by rw [List.map_append, List.map_map]; rfl]
          all_goals exact ⟨_, _, _, _, rfl, .sh, .ow, .sh, .sh⟩
    · rintro e ⟨sc, s5, s6, s7, rfl, jc, j5, j6, j7⟩
      wtm_at "Rgo"
      all_goals (rw [List.length_range, Int.toNat_natCast]; rfl)
theorem zD_scr (a : Fin q) (x : List (Fin q)) : x.map (fun y => D.int (fz y * fz a % (q : Int))) = (scaleL a x).map zD := by
  unfold scaleL
  rw [List.map_map]
  refine List.map_congr_left fun y _ => ?_
  rw [← fz_mul]
  show zD (y * a) = zD (a * y)
  congr 1; grind
theorem led_in_gen {rd : List (Fin q) → D} {X : D} (hn : 2 ≤ n) (hq : q ∈ [2, 3, 5, 7, 11, 13]) (q1 : 1 < q) (q13 : q ≤ 13) (m : Nat) (A : List (List (Fin q))) (hA : ∀ r ∈ A, r.length = m) (hl : A.length ≤ 1000) (hm : m ≤ 1000) (cc : Nat) (hcc : cc ≤ m) (hX : itsD X = some (A.map rd)) (hr : ∀ r, bltop .list [rd r] = some (true, lwD r)) : Cs (callF G GK n) 93 [.int q, X, .int cc] (.ok false (.tup [.lst ((ledC ivF cc A).1.map plD), .lst ((ledC ivF cc A).2.map lwD)]) .non) := by
  wtm_at "Rst"
  intro k hk
  generalize hB : ([.set (.v 6) _, .ite _ _ _] : List S) = B
  wtm_at "Rgo"
  refine WkQ.fz hX ?_
  wtm_at "Rgo"
  refine LcQ.map lwD (by unfold lim; omega) (fun y hy => ?_) ?_
  · wtm_at "Rgo"
    refine ⟨_, hr y, ?_⟩
    show FzQ _ (VL.fr (lwD y)) _
    wtm_at "Rgo"
  wtm_at "Rgo"
  refine FoQ.invM (fun l r e => ∃ sc s6 s7 s8, e = [some (.sh, .int q), some (.sh, X), some (.sh, .int cc), sc, some (.ow, .lst ((ledC ivF l.length A).2.map lwD)), some (.ow, .lst ((ledC ivF l.length A).1.map plD)), s6, s7, s8, none, none, none, none] ∧ J sc ∧ Jo s6 ∧ Jo s7 ∧ Jo s8) ⟨none, none, none, none, rfl, .non, .non, .non, .non⟩ ?_ ?_
  · rintro l c r e hl' ⟨sc, s6, s7, s8, rfl, jc, j6, j7, j8⟩
    obtain ⟨hc, hcm⟩ := rng_at hl'
    have hL := Led.all (ivF_ok hq) hA c (by omega)
    rw [List.length_append, List.length_singleton, ← hc, ledC_succ]
    generalize hst : ledC (ivF (q := q)) c A = st at *
    obtain ⟨L, R⟩ := st
    have hR := hL.rws
    have hLl := hL.ech.len
    have hcnt := hL.cnt
    simp only [] at hR hLl hcnt
    obtain ⟨sp1, sp2⟩ := spots (fun r => decide (fnl r c ≠ 0)) R 0
    have el : ∀ F : List (List (Fin q) × Nat), F.map (fun y => D.int (y.2 : Int)) = (F.map (·.2)).map (fun k : Nat => D.int (k : Int)) := fun F => by rw [List.map_map]; rfl
    subst hB
    wtm_at "Rgo"
    refine LcQ.filter (fun y => decide (fnl y.1 c ≠ 0)) (fun y => .int (y.2 : Int)) (by rw [List.length_zipIdx]; show R.length ≤ lim; unfold lim; omega) (fun y hy => ?_) ?_
    · have hy1 := hR _ (List.fst_mem_of_mem_zipIdx hy)
      have ha := at_fnl (r := y.1) (c := c) (by omega)
      wtm_at "Rgo"
      all_goals refine ⟨by simp [fz_zero], ?_⟩
      all_goals wtm_at "Rgo"
    · unfold stpC
      cases hf : R.findIdx? (fun r => decide (fnl r c ≠ 0)) with
      | none =>
        rw [sp1 hf]
        wtm_at "Rgo"
        all_goals exact ⟨_, _, _, _, rfl, .sh, .ow, j7, j8⟩
      | some i =>
        obtain ⟨rr, hrr⟩ := sp2 i hf
        obtain ⟨hi, hpi, -⟩ := List.findIdx?_eq_some_iff_getElem.mp hf
        rw [el, hrr, List.map_cons, Nat.add_zero]
        have hg : R.getD i [] = R[i] := by rw [List.getD_eq_getElem?_getD, List.getElem?_eq_getElem hi]; rfl
        have ho : (R.map (lwD (q := q)))[((i : Nat) : Int).toNat]? = some (lwD R[i]) := by rw [Int.toNat_natCast, List.getElem?_map, List.getElem?_eq_getElem hi]; rfl
        have he : (R.map (lwD (q := q))).eraseIdx ((i : Nat) : Int).toNat = (R.eraseIdx i).map lwD := by rw [Int.toNat_natCast, eraseIdx_mp]
        have m0 := hR _ (List.getElem_mem hi)
        simp only [hg]
        generalize R[i] = f0 at *
        have ha0 := at_fnl (r := f0) (c := c) (by omega)
        have hsc := scaleL_len (ivF (fnl f0 c)) f0
        have hE : ∀ y ∈ R.eraseIdx i, y.length = m := fun y hy => hR y (List.mem_of_mem_eraseIdx hy)
        have hEl : (R.eraseIdx i).length ≤ 1000 := by have := List.length_eraseIdx_le R i; omega
        wtm_at "Rgo"
        all_goals refine ⟨by omega, by omega, Op.mk' ho ?_⟩
        all_goals rw [he]
        all_goals wtm_at "Rgo"
        all_goals refine ClQ.fz (inverse_of_ok (by omega) q1 q13 _) ?_
        all_goals wtm_at "Rgo"
        all_goals rw [zD_scr]
        all_goals generalize scaleL (ivF (fnl f0 c)) f0 = f at *
        all_goals refine LcQ.inv (fun l r ds e => ds = l.map (fun y => lwD (clr y f c)) ∧ ∃ fl, (fl = Fl.ow ∨ fl = Fl.sh) ∧ e = [some (.sh, .int q), some (.sh, X), some (.sh, .int cc), some (.sh, .int c), some (.lk, .lst ((R.eraseIdx i).map lwD)), some (.ow, .lst (L.map plD)), some (.ow, .lst (.int i :: rr.map fun k : Nat => .int k)), some (fl, lwD f), some (.sh, zD (ivF (fnl f0 c))), none, none, none, none]) ⟨rfl, .ow, .inl rfl, rfl⟩ ?_ ?_
        · rintro l y r ds e hl ⟨rfl, fl, hfl, rfl⟩
          have hy1 := hE y (by rw [← hl]; simp)
          have hll := congrArg List.length hl
          rw [List.length_append, List.length_cons] at hll
          obtain ⟨b, hb⟩ := cleared_ok (n := k) (by omega) q1 q13 y f c (by omega) (by omega) (by omega)
          rcases hfl with rfl | rfl <;> cases b <;> wtm_at "Rgo"
          all_goals first | refine ClQ.fz hb ?_ | refine ClQ.fr hb ?_
          all_goals wtm_at "Rgo"
          all_goals exact ⟨by rw [List.map_append]; rfl, .sh, .inr rfl, rfl⟩
        · rintro ds e ⟨rfl, fl, hfl, rfl⟩
          have tail : ∀ fl : Fl, (fl = .ow ∨ fl = .sh) → ∀ e : Nv, e = [some (.sh, .int q), some (.sh, X), some (.sh, .int cc), some (.sh, .int c), some (.ow, .lst ((R.eraseIdx i).map fun y => lwD (clr y f c))), some (.lk, .lst (L.map plD)), some (.ow, .lst (.int i :: rr.map fun k : Nat => .int k)), some (fl, lwD f), some (.sh, zD (ivF (fnl f0 c))), none, none, none, none] → ∀ Q : List D → Nv → Prop, (∀ fl : Fl, (fl = .ow ∨ fl = .sh) → Q (L.map fun p => plD (p.1, clr p.2 f c)) [some (.sh, .int q), some (.sh, X), some (.sh, .int cc), some (.sh, .int c), some (.ow, .lst ((R.eraseIdx i).map fun y => lwD (clr y f c))), some (.lk, .lst (L.map plD)), some (.ow, .lst (.int i :: rr.map fun k : Nat => .int k)), some (fl, lwD f), some (.sh, zD (ivF (fnl f0 c))), none, none, none, none]) →
              LcQ (callF G GK k) GK (.tup [.var 12, .call 90 none [.var 0, .var 9, .var 7, .var 3]]) [12, 9] (.t [.v 12, .v 9]) [] (L.map plD) [] e Q := by
            rintro fl hfl e rfl Q hQ
            refine LcQ.inv (fun l r ds e => ds = l.map (fun p => plD (p.1, clr p.2 f c)) ∧ ∃ fl, (fl = Fl.ow ∨ fl = Fl.sh) ∧ e = [some (.sh, .int q), some (.sh, X), some (.sh, .int cc), some (.sh, .int c), some (.ow, .lst ((R.eraseIdx i).map fun y => lwD (clr y f c))), some (.lk, .lst (L.map plD)), some (.ow, .lst (.int i :: rr.map fun k : Nat => .int k)), some (fl, lwD f), some (.sh, zD (ivF (fnl f0 c))), none, none, none, none]) ⟨rfl, fl, hfl, rfl⟩ ?_ ?_
            · rintro l p r ds e hl ⟨rfl, fl, hfl, rfl⟩
              have hy1 := hLl p (by rw [← hl]; simp)
              have hll := congrArg List.length hl
              rw [List.length_append, List.length_cons] at hll
              obtain ⟨b, hb⟩ := cleared_ok (n := k) (by omega) q1 q13 p.2 f c (by omega) (by omega) (by omega)
              rcases hfl with rfl | rfl <;> cases b <;> wtm_at "Rgo"
              all_goals first | refine ClQ.fz hb ?_ | refine ClQ.fr hb ?_
              all_goals wtm_at "Rgo"
              all_goals exact ⟨by rw [List.map_append]; rfl, .sh, .inr rfl, rfl⟩
            · rintro ds e ⟨rfl, fl, hfl, rfl⟩
              exact hQ fl hfl
          rcases hfl with rfl | rfl <;> wtm_at "Rgo"
          all_goals first | refine tail .ow (.inl rfl) _ rfl _ ?_ | refine tail .sh (.inr rfl) _ rfl _ ?_
          all_goals rintro fl hfl
          all_goals rcases hfl with rfl | rfl <;> wtm_at "Rgo"
          all_goals rw [show (R.eraseIdx i).map (fun y => lwD (clr y f c)) = ((R.eraseIdx i).map fun r => clr r f c).map lwD from by rw [List.map_map]; rfl,
            show L.map (fun p => plD (p.1, clr p.2 f c)) ++ [D.tup [.int c, lwD f]] = (L.map (fun p => (p.1, clr p.2 f c)) ++ [(c, f)]).map plD from by rw [List.map_append, List.map_map]; rfl]
          all_goals exact ⟨_, _, _, _, rfl, .sh, .ow, .sh, .sh⟩
  · rintro e ⟨sc, s6, s7, s8, rfl, jc, j6, j7, j8⟩
    wtm_at "Rgo"
    all_goals rw [List.length_range, Int.toNat_natCast]
theorem led_in_ok (hn : 2 ≤ n) (hq : q ∈ [2, 3, 5, 7, 11, 13]) (q1 : 1 < q) (q13 : q ≤ 13) (m : Nat) (A : List (List (Fin q))) (hA : ∀ r ∈ A, r.length = m) (hl : A.length ≤ 1000) (hm : m ≤ 1000) : Cs (callF G GK n) 93 [.int q, rwD A, .int m] (.ok false (.tup [.lst ((echL ivF m A).map plD), .lst ((ledC ivF m A).2.map lwD)]) .non) := led_in_gen (rd := wD) hn hq q1 q13 m A hA hl hm m (Nat.le_refl m) rfl fun _ => rfl
theorem led_in_okL (hn : 2 ≤ n) (hq : q ∈ [2, 3, 5, 7, 11, 13]) (q1 : 1 < q) (q13 : q ≤ 13) (m : Nat) (A : List (List (Fin q))) (hA : ∀ r ∈ A, r.length = m) (hl : A.length ≤ 1000) (hm : m ≤ 1000) : Cs (callF G GK n) 93 [.int q, .lst (A.map lwD), .int m] (.ok false (.tup [.lst ((echL ivF m A).map plD), .lst ((ledC ivF m A).2.map lwD)]) .non) := led_in_gen (rd := lwD) hn hq q1 q13 m A hA hl hm m (Nat.le_refl m) rfl fun _ => rfl
theorem echelon_in_ok (hn : 3 ≤ n) (hq : q ∈ [2, 3, 5, 7, 11, 13]) (q1 : 1 < q) (q13 : q ≤ 13) (m : Nat) (A : List (List (Fin q))) (hA : ∀ r ∈ A, r.length = m) (hl : A.length ≤ 1000) (hm : m ≤ 1000) (hz : A = [] → m = 0) : Cs (callF G GK n) 94 [.int q, rwD A] (.ok true (.lst ((echL ivF m A).map prD)) .non) := by
  have hcc : (if A = [] then 0 else m) = m := by split <;> simp_all
  wtm_at "Rin"
  refine ClQ.fz (columns_ok (by omega) m A hA hl hm) ?_
  rw [hcc]
  wtm_at "Rgo"
  refine ClQ.fz (led_in_ok (by omega) hq q1 q13 m A hA hl hm) ?_
  wtm_at "Rgo"
  have hEl : (echL (ivF (q := q)) m A).length ≤ 1000 := by have := rankL_le_len (ivF_ok hq) hA; unfold rankL at this; omega
  have hLl := (echL_ech (ivF_ok hq) hA).len
  all_goals refine LcQ.map prD (by unfold lim; omega) (fun p hp => ?_) ?_
  all_goals try have hp1 := hLl p hp
  all_goals wtm_at "Rgo"
theorem echelon_in_okL (hn : 3 ≤ n) (hq : q ∈ [2, 3, 5, 7, 11, 13]) (q1 : 1 < q) (q13 : q ≤ 13) (m : Nat) (A : List (List (Fin q))) (hA : ∀ r ∈ A, r.length = m) (hl : A.length ≤ 1000) (hm : m ≤ 1000) (hz : A = [] → m = 0) : Cs (callF G GK n) 94 [.int q, .lst (A.map lwD)] (.ok true (.lst ((echL ivF m A).map prD)) .non) := by
  have hcc : (if A = [] then 0 else m) = m := by split <;> simp_all
  wtm_at "Rin"
  refine ClQ.fz (columns_okL (by omega) m A hA hl hm) ?_
  rw [hcc]
  wtm_at "Rgo"
  refine ClQ.fz (led_in_okL (by omega) hq q1 q13 m A hA hl hm) ?_
  wtm_at "Rgo"
  have hEl : (echL (ivF (q := q)) m A).length ≤ 1000 := by have := rankL_le_len (ivF_ok hq) hA; unfold rankL at this; omega
  have hLl := (echL_ech (ivF_ok hq) hA).len
  all_goals refine LcQ.map prD (by unfold lim; omega) (fun p hp => ?_) ?_
  all_goals try have hp1 := hLl p hp
  all_goals wtm_at "Rgo"
theorem rank_in_ok (hn : 2 ≤ n) (hq : q ∈ [2, 3, 5, 7, 11, 13]) (q1 : 1 < q) (q13 : q ≤ 13) (m : Nat) (A : List (List (Fin q))) (hA : ∀ r ∈ A, r.length = m) (hl : A.length ≤ 1000) (hm : m ≤ 1000) : Cs (callF G GK n) 91 [.int q, rwD A] (.ok false (.int (rankL ivF m A : Nat)) .non) := by
  wtm_at "Rst"
  intro k hk
  generalize hB : ([.set (.v 5) _, .ite _ _ _] : List S) = B
  wtm_at "Rgo"
  refine ClQ.fz (columns_ok (by omega) m A hA hl hm) ?_
  have hM1 : (if A = [] then 0 else m) ≤ m := by split <;> omega
  have hM2 : (ledC (ivF (q := q)) (if A = [] then 0 else m) A).1.length = rankL ivF m A := by
    split
    · rename_i h; subst h; unfold rankL echL; rw [ledC_nil, ledC_nil]
    · rfl
  generalize (if A = [] then 0 else m) = M at *
  wtm_at "Rgo"
  refine FoQ.invM (fun l r e => ∃ sc s5 s6 s7, e = [some (.sh, .int q), some (.sh, rwD A), sc, some (.ow, .lst ((ledC ivF l.length A).2.map lwD)), some (.sh, .int ((ledC (ivF (q := q)) l.length A).1.length : Nat)), s5, s6, s7, none, none, none] ∧ J sc ∧ Jo s5 ∧ Jo s6 ∧ Jo s7) ⟨none, none, none, none, rfl, .non, .non, .non, .non⟩ ?_ ?_
  · rintro l c r e hl' ⟨sc, s5, s6, s7, rfl, jc, j5, j6, j7⟩
    obtain ⟨hc, hcm⟩ := rng_at hl'
    have hL := Led.all (ivF_ok hq) hA c (by omega)
    rw [List.length_append, List.length_singleton, ← hc, ledC_succ]
    generalize hst : ledC (ivF (q := q)) c A = st at *
    obtain ⟨L, R⟩ := st
    have hR := hL.rws
    have hLl := hL.ech.len
    have hcnt := hL.cnt
    simp only [] at hR hLl hcnt
    obtain ⟨sp1, sp2⟩ := spots (fun r => decide (fnl r c ≠ 0)) R 0
    have el : ∀ F : List (List (Fin q) × Nat), F.map (fun y => D.int (y.2 : Int)) = (F.map (·.2)).map (fun k : Nat => D.int (k : Int)) := fun F => by rw [List.map_map]; rfl
    subst hB
    wtm_at "Rgo"
    refine LcQ.filter (fun y => decide (fnl y.1 c ≠ 0)) (fun y => .int (y.2 : Int)) (by rw [List.length_zipIdx]; show R.length ≤ lim; unfold lim; omega) (fun y hy => ?_) ?_
    · have hy1 := hR _ (List.fst_mem_of_mem_zipIdx hy)
      have ha := at_fnl (r := y.1) (c := c) (by omega)
      wtm_at "Rgo"
      all_goals refine ⟨by simp [fz_zero], ?_⟩
      all_goals wtm_at "Rgo"
    · unfold stpC
      cases hf : R.findIdx? (fun r => decide (fnl r c ≠ 0)) with
      | none =>
        rw [sp1 hf]
        wtm_at "Rgo"
        all_goals exact ⟨_, _, _, _, rfl, .sh, .ow, j6, j7⟩
      | some i =>
        obtain ⟨rr, hrr⟩ := sp2 i hf
        obtain ⟨hi, hpi, -⟩ := List.findIdx?_eq_some_iff_getElem.mp hf
        rw [el, hrr, List.map_cons, Nat.add_zero]
        have hg : R.getD i [] = R[i] := by rw [List.getD_eq_getElem?_getD, List.getElem?_eq_getElem hi]; rfl
        have ho : (R.map (lwD (q := q)))[((i : Nat) : Int).toNat]? = some (lwD R[i]) := by rw [Int.toNat_natCast, List.getElem?_map, List.getElem?_eq_getElem hi]; rfl
        have he : (R.map (lwD (q := q))).eraseIdx ((i : Nat) : Int).toNat = (R.eraseIdx i).map lwD := by rw [Int.toNat_natCast, eraseIdx_mp]
        have m0 := hR _ (List.getElem_mem hi)
        simp only [hg]
        generalize R[i] = f0 at *
        have ha0 := at_fnl (r := f0) (c := c) (by omega)
        have hsc := scaleL_len (ivF (fnl f0 c)) f0
        have hE : ∀ y ∈ R.eraseIdx i, y.length = m := fun y hy => hR y (List.mem_of_mem_eraseIdx hy)
        have hEl : (R.eraseIdx i).length ≤ 1000 := by have := List.length_eraseIdx_le R i; omega
        wtm_at "Rgo"
        all_goals refine ⟨by omega, by omega, Op.mk' ho ?_⟩
        all_goals rw [he]
        all_goals wtm_at "Rgo"
        all_goals refine ClQ.fz (inverse_of_ok (by omega) q1 q13 _) ?_
        all_goals wtm_at "Rgo"
        all_goals rw [zD_scr]
        all_goals generalize scaleL (ivF (fnl f0 c)) f0 = f at *
        all_goals refine LcQ.inv (fun l r ds e => ds = l.map (fun y => lwD (clr y f c)) ∧ ∃ fl, (fl = Fl.ow ∨ fl = Fl.sh) ∧ e = [some (.sh, .int q), some (.sh, rwD A), some (.sh, .int c), some (.lk, .lst ((R.eraseIdx i).map lwD)), some (.sh, .int (L.length : Nat)), some (.ow, .lst (.int i :: rr.map fun k : Nat => .int k)), some (fl, lwD f), some (.sh, zD (ivF (fnl f0 c))), none, none, none]) ⟨rfl, .ow, .inl rfl, rfl⟩ ?_ ?_
        · rintro l y r ds e hl ⟨rfl, fl, hfl, rfl⟩
          have hy1 := hE y (by rw [← hl]; simp)
          have hll := congrArg List.length hl
          rw [List.length_append, List.length_cons] at hll
          obtain ⟨b, hb⟩ := cleared_ok (n := k) (by omega) q1 q13 y f c (by omega) (by omega) (by omega)
          rcases hfl with rfl | rfl <;> cases b <;> wtm_at "Rgo"
          all_goals first | refine ClQ.fz hb ?_ | refine ClQ.fr hb ?_
          all_goals wtm_at "Rgo"
          all_goals exact ⟨by rw [List.map_append]; rfl, .sh, .inr rfl, rfl⟩
        · rintro ds e ⟨rfl, fl, hfl, rfl⟩
          rcases hfl with rfl | rfl <;> wtm_at "Rgo"
          all_goals rw [show (R.eraseIdx i).map (fun y => lwD (clr y f c)) = ((R.eraseIdx i).map fun r => clr r f c).map lwD from by rw [List.map_map]; rfl]
          all_goals rw [show ((L.length : Int) + 1) = (((L.map fun p => (p.1, clr p.2 f c)) ++ [(c, f)]).length : Nat) from by simp]
          all_goals first | exact ⟨_, _, _, _, rfl, .sh, .ow, .ow, .sh⟩ | exact ⟨_, _, _, _, rfl, .sh, .ow, .sh, .sh⟩
  · rintro e ⟨sc, s5, s6, s7, rfl, jc, j5, j6, j7⟩
    wtm_at "Rgo"
    all_goals (rw [List.length_range, Int.toNat_natCast, hM2])
end
end RT

namespace RT
open PySem
variable {n : Nat}
local macro_rules | `(tactic| wtm_at "Rcmpq") => `(tactic| with_reducible first | refine RT.cmp_eqw ?_ | refine RT.cmp_new ?_ | refine RT.cmp_eql ?_ | refine RT.cmp_nel ?_)
local macro_rules | `(tactic| wtm_at "Rcall") => `(tactic| refine RT.ClQ.fz (RT.is_whole_i (by omega) _) ?_)
local macro_rules | `(tactic| wtm_at "Rcall") => `(tactic| refine RT.ClQ.fz (RT.is_within_i (by omega) _ _ _) ?_)
local macro_rules | `(tactic| wtm_at "Ri64") => `(tactic| first | ((with_reducible refine Or.inl (RT.i64_fz ?_ _)) <;> omega) | ((with_reducible refine Or.inr (RT.i64_fz ?_ _)) <;> omega))
local macro_rules | `(tactic| wtm_at "Rcall") => `(tactic| refine RT.ClQ.fz (RT.is_base_z (by omega) _) ?_)
local macro_rules | `(tactic| wtm_at "Rcmpq") => `(tactic| with_reducible first | refine RT.cmp_eqr ?_ | refine RT.cmp_ner ?_)
local macro_rules | `(tactic| wtm_at "Ri64") => `(tactic| first | ((with_reducible refine Or.inl (RT.i64_fz ?_ _)) <;> omega) | ((with_reducible refine Or.inr (RT.i64_fz ?_ _)) <;> omega))
/-! SBasR: ranks, echelons, kernels, products of base rows. -/
theorem all_true {α : Type} (l : List α) : (l.all fun _ => true) = true := by
  rw [List.all_eq_true]; intro _ _; rfl
theorem require_base_i (hn : 3 ≤ n) (q : Int) (h : q ∈ [2, 3, 5, 7, 11, 13]) : Cs (callF G GK n) 16 [.int q] (.ok false .non .non) := by
  simp only [List.mem_cons, List.not_mem_nil, or_false] at h
  rcases h with rfl | rfl | rfl | rfl | rfl | rfl <;> wtm_at "Rin"
theorem require_base_n (hn : 3 ≤ n) {q : Nat} (h : q ∈ [2, 3, 5, 7, 11, 13]) : Cs (callF G GK n) 16 [.int q] (.ok false .non .non) := by
  refine require_base_i hn q ?_
  simp only [List.mem_cons, List.not_mem_nil, or_false] at h ⊢
  omega
section
variable {q : Nat} [NeZero q]
theorem are_even_ok (hn : 1 ≤ n) (m : Nat) (A : List (List (Fin q))) (hA : ∀ r ∈ A, r.length = m) (hl : A.length ≤ 60) (hm : m ≤ 60) : Cs (callF G GK n) 85 [rwD A] (.ok false (.bl true) .non) := by
  have ht := all_true A
  wtm_at "Rst"
  intro k hk
  wtm_at "Rgo"
  all_goals first
    | (rename_i hp; rw [ht] at hp; cases hp; done)
    | skip
  refine LcQ.map (fun _ => .bl true) (by unfold lim; omega) (fun y hy => ?_) ?_
  · have hy1 := hA y hy
    have h0 : 0 < A.length := List.length_pos_of_mem hy
    have hat : A[((0 : Int)).toNat]? = some A[0] := List.getElem?_eq_getElem h0
    have hy0 := hA A[0] (List.getElem_mem h0)
    wtm_at "Rgo"
    all_goals exact ⟨by rw [decide_eq_true (by omega)], rfl⟩
  · wtm_at "Rgo"
    all_goals rw [ht]
theorem are_base_rows_ok (hn : 4 ≤ n) (m : Nat) (A : List (List (Fin q))) (hA : ∀ r ∈ A, r.length = m) (hl : A.length ≤ 60) (hm : m ≤ 60) : Cs (callF G GK n) 86 [.int q, rwD A] (.ok false (.bl true) .non) := by
  wtm_at "Rst"
  intro k hk
  wtm_at "Rgo"
  refine ClQ.fz (are_even_ok (by omega) m A hA hl hm) ?_
  wtm_at "Rgo"
  have hfl : ∀ l r : List (List (Fin q)), ∀ y, l ++ y :: r = A → l.flatten.length + y.length ≤ 3600 := fun l r y h => by
    have h1 : (l ++ [y]).flatten.length ≤ 60 * (l ++ [y]).length := by
      have : ∀ B : List (List (Fin q)), (∀ x ∈ B, x ∈ A) → B.flatten.length ≤ 60 * B.length := by
        intro B
        induction B with
        | nil => intro _; simp
        | cons x B ih =>
          intro hB
          have := ih fun z hz => hB z (List.mem_cons_of_mem _ hz)
          have := hA x (hB x List.mem_cons_self)
          rw [List.flatten_cons, List.length_append, List.length_cons]; omega
      exact this _ fun x hx => by rw [← h]; simp at hx ⊢; exact hx.elim .inl fun z => .inr (.inl z)
    have h2 := congrArg List.length h
    rw [List.flatten_append, List.length_append] at h1
    simp at h1 h2 ⊢
    omega
  refine Lc2Q.inv (fun l r ds e => ds = l.flatten.map (fun _ => D.bl true) ∧ e = [some (.sh, .int q), some (.sh, rwD A), none, none]) ⟨rfl, rfl⟩ ?_ ?_
  · rintro l y r ds e hl ⟨rfl, rfl⟩
    have hf := hfl l r y hl
    have hy := hA y (by rw [← hl]; simp)
    wtm_at "Rgo"
    refine LcQ.mapA (fun _ => .bl true) (by rw [List.length_map]; unfold lim; omega) (fun z hz => ?_) ?_
    · wtm_at "Rgo"
    · wtm_at "Rgo"
      refine ⟨?_, rfl⟩
      rw [List.flatten_append, List.map_append]
      simp
  · rintro ds e ⟨rfl, rfl⟩
    wtm_at "Rgo"
    all_goals rw [all_true]
theorem require_base_rows_ok (hn : 5 ≤ n) (hq : q ∈ [2, 3, 5, 7, 11, 13]) (m : Nat) (A : List (List (Fin q))) (hA : ∀ r ∈ A, r.length = m) (hl : A.length ≤ 60) (hm : m ≤ 60) : Cs (callF G GK n) 87 [.int q, rwD A] (.ok false .non .non) := by
  wtm_at "Rst"
  intro k hk
  wtm_at "Rgo"
  refine ClQ.fz (require_base_n (by omega) hq) ?_
  wtm_at "Rgo"
  refine ClQ.fz (are_base_rows_ok (by omega) m A hA hl hm) ?_
  wtm_at "Rgo"
theorem base_rank_ok (hn : 6 ≤ n) (hq : q ∈ [2, 3, 5, 7, 11, 13]) (q1 : 1 < q) (q13 : q ≤ 13) (m : Nat) (A : List (List (Fin q))) (hA : ∀ r ∈ A, r.length = m) (hl : A.length ≤ 60) (hm : m ≤ 60) : Cs (callF G GK n) 92 [.int q, rwD A] (.ok false (.int (rankL ivF m A : Nat)) .non) := by
  wtm_at "Rst"
  intro k hk
  wtm_at "Rgo"
  refine ClQ.fz (require_base_rows_ok (by omega) hq m A hA hl hm) ?_
  wtm_at "Rgo"
  refine ClQ.fz (rank_in_ok (by omega) hq q1 q13 m A hA (by omega) (by omega)) ?_
  wtm_at "Rgo"
theorem echL_nil (m : Nat) : echL (ivF (q := q)) m [] = [] := by unfold echL; rw [ledC_nil]
theorem echelon_ok (hn : 6 ≤ n) (hq : q ∈ [2, 3, 5, 7, 11, 13]) (q1 : 1 < q) (q13 : q ≤ 13) (m : Nat) (A : List (List (Fin q))) (hA : ∀ r ∈ A, r.length = m) (hl : A.length ≤ 60) (hm : m ≤ 60) : Cs (callF G GK n) 95 [.int q, rwD A] (.ok false (rwD (rw_ (echL ivF m A))) .non) := by
  have key : ∀ k, k + 1 = n → Cs (callF G GK k) 94 [.int q, rwD A] (.ok true (.lst ((echL ivF m A).map prD)) .non) := fun k hk => by
    by_cases hz : A = []
    · subst hz
      have := echelon_in_ok (n := k) (by omega) hq q1 q13 0 [] (by simp) (by simp) (by omega) (fun _ => rfl)
      rw [echL_nil] at this ⊢
      exact this
    · exact echelon_in_ok (by omega) hq q1 q13 m A hA (by omega) (by omega) (fun h => absurd h hz)
  have hE : (echL (ivF (q := q)) m A).length ≤ 60 := by have := rankL_le_len (ivF_ok hq) hA; unfold rankL at this; omega
  wtm_at "Rst"
  intro k hk
  wtm_at "Rgo"
  refine ClQ.fz (require_base_rows_ok (by omega) hq m A hA hl hm) ?_
  wtm_at "Rgo"
  refine ClQ.fr (key k hk) ?_
  wtm_at "Rgo"
  all_goals (unfold rw_; rw [rwD, List.map_map]; rfl)
theorem getK_putK (kvs : List (L2.Key × D)) (k k' : L2.Key) (v : D) : getK (putK kvs k v) k' = if k' = k then some v else getK kvs k' := by
  unfold putK
  split
  · rename_i h
    have key : ∀ kvs : List (L2.Key × D), (kvs.any fun kv => decide (kv.1 = k)) = true → getK (kvs.map fun kv => if kv.1 = k then (kv.1, v) else kv) k' = if k' = k then some v else getK kvs k' := by
      intro kvs
      induction kvs with
      | nil => intro h; cases h
      | cons p kvs ih =>
        intro h
        rw [List.any_cons, Bool.or_eq_true] at h
        unfold getK at ih ⊢
        by_cases hp : p.1 = k
        · by_cases hk : k' = k
          · subst hk; simp [hp]
          · have : ¬ p.1 = k' := fun z => hk (z.symm.trans hp)
            rw [List.map_cons, if_pos hp, List.find?_cons, List.find?_cons]
            simp only [decide_eq_false this, if_neg hk]
            have key2 : ∀ kvs : List (L2.Key × D), (kvs.map fun kv => if kv.1 = k then (kv.1, v) else kv).find? (fun kv => decide (kv.1 = k')) = kvs.find? fun kv => decide (kv.1 = k') := by
              intro kvs
              induction kvs with
              | nil => rfl
              | cons p kvs ih =>
                rw [List.map_cons, List.find?_cons, List.find?_cons, ih]
                by_cases hp : p.1 = k
                · rw [if_pos hp]
                  have : ¬ p.1 = k' := fun z => hk (z.symm.trans hp)
                  simp only [decide_eq_false this]
                · rw [if_neg hp]
            rw [key2]
        · have h := h.resolve_left (by simpa using hp)
          rw [List.map_cons, if_neg hp, List.find?_cons, List.find?_cons]
          by_cases hk' : p.1 = k'
          · simp only [decide_eq_true hk']
            have : ¬ k' = k := fun z => hp (hk'.trans z)
            rw [if_neg this]
          · simp only [decide_eq_false hk']
            exact ih h
    exact key kvs h
  · rename_i h
    unfold getK
    rw [List.find?_append]
    have hn : k' = k → kvs.find? (fun kv => decide (kv.1 = k')) = none := fun z => by
      subst z
      rw [List.find?_eq_none]
      intro p hp
      simp at h ⊢
      exact fun hp1 => h p.2 (by rw [← hp1]; exact hp)
    by_cases hk : k' = k
    · rw [hn hk, if_pos hk]; subst hk; simp
    · rw [if_neg hk]
      cases kvs.find? fun kv => decide (kv.1 = k') with
      | some p => rfl
      | none =>
        rw [List.find?_cons]
        have : ¬ k = k' := fun z => hk z.symm
        simp [this]
theorem getK_fold {α : Type} (f : α → Nat) (g : α → D) (j : Nat) (l : List α) (kvs : List (L2.Key × D)) : (getK (l.foldl (fun a y => putK a (.inl (f y : Int)) (g y)) kvs) (.inl (j : Int))).isSome = ((getK kvs (.inl (j : Int))).isSome || (l.map f).contains j) := by
  induction l generalizing kvs with
  | nil => simp
  | cons x l ih =>
    rw [List.foldl_cons, ih, getK_putK, List.map_cons, List.contains_cons]
    by_cases h : j = f x
    · subst h; simp
    · have : ¬ ((.inl (j : Int) : L2.Key) = .inl (f x : Int)) := fun z => h (by have := Sum.inl.inj z; omega)
      rw [if_neg this]
      have : (j == f x) = false := by simpa using h
      rw [this, Bool.false_or]
theorem sum_dot : ∀ a b : List (Fin q), ((a.zip b).map fun p => fz p.1 * fz p.2).sum % (q : Int) = fz (dot a b)
  | [], b => by show (0 : Int) % q = _; rw [Int.zero_emod, dot_nil]; rfl
  | x :: a, [] => by show (0 : Int) % q = _; rw [Int.zero_emod, dot_nil']; rfl
  | x :: a, y :: b => by
    rw [List.zip_cons_cons, List.map_cons, List.sum_cons, dot_cons, fz_add, fz_mul, ← sum_dot a b, Int.emod_add_emod, Int.add_emod_emod]
theorem base_dot_ok (hn : 1 ≤ n) (q13 : q ≤ 13) (a b : List (Fin q)) (ha : a.length ≤ 1000) : Cs (callF G GK n) 100 [.int q, wD a, lwD b] (.ok false (zD (dot a b)) .non) := by
  have q0 := qpos (q := q)
  wtm_at "Rin"
  all_goals rw [sum_dot]
end
end RT

namespace RT
open PySem
variable {n : Nat}
local macro_rules | `(tactic| wtm_at "Rcmpq") => `(tactic| with_reducible first | refine RT.cmp_eqw ?_ | refine RT.cmp_new ?_ | refine RT.cmp_eql ?_ | refine RT.cmp_nel ?_)
local macro_rules | `(tactic| wtm_at "Rcall") => `(tactic| refine RT.ClQ.fz (RT.is_whole_i (by omega) _) ?_)
local macro_rules | `(tactic| wtm_at "Rcall") => `(tactic| refine RT.ClQ.fz (RT.is_within_i (by omega) _ _ _) ?_)
local macro_rules | `(tactic| wtm_at "Ri64") => `(tactic| first | ((with_reducible refine Or.inl (RT.i64_fz ?_ _)) <;> omega) | ((with_reducible refine Or.inr (RT.i64_fz ?_ _)) <;> omega))
local macro_rules | `(tactic| wtm_at "Rcall") => `(tactic| refine RT.ClQ.fz (RT.is_base_z (by omega) _) ?_)
local macro_rules | `(tactic| wtm_at "Rcmpq") => `(tactic| with_reducible first | refine RT.cmp_eqr ?_ | refine RT.cmp_ner ?_)
local macro_rules | `(tactic| wtm_at "Ri64") => `(tactic| first | ((with_reducible refine Or.inl (RT.i64_fz ?_ _)) <;> omega) | ((with_reducible refine Or.inr (RT.i64_fz ?_ _)) <;> omega))
/-! SBasK: kernels, products of base rows. -/
section
variable {q : Nat} [NeZero q]
theorem fz_neg (a : Fin q) : (-(fz a)) % (q : Int) = fz (-a) := by
  have := fz_sub (0 : Fin q) a
  rw [show (0 : Fin q) - a = -a from by grind, show fz (0 : Fin q) = 0 from rfl] at this
  rw [this]; congr 1; omega
theorem zD_unit (q1 : 1 < q) (m f : Nat) : (List.range m).map (fun j : Nat => D.int (if decide ((j : Int) = (f : Int)) = true then 1 else 0)) = (unitL m f : List (Fin q)).map zD := by
  unfold unitL
  rw [List.map_map]
  refine List.map_congr_left fun j _ => ?_
  simp only [Function.comp]
  by_cases h : j = f
  · rw [if_pos (decide_eq_true (by omega)), if_pos h]
    show D.int 1 = D.int (fz 1)
    rw [fz_one q1]
  · rw [if_neg (by rw [decide_eq_false (by omega)]; exact Bool.false_ne_true), if_neg h]; rfl
theorem kers_len (m : Nat) (L : List (Nat × List (Fin q))) : (kers m L).length ≤ m := by
  unfold kers freeL
  rw [List.length_map]
  refine Nat.le_trans (List.length_filter_le _ _) ?_
  simp
theorem kernel_in_ok (hn : 4 ≤ n) (hq : q ∈ [2, 3, 5, 7, 11, 13]) (q1 : 1 < q) (q13 : q ≤ 13) (m : Nat) (A : List (List (Fin q))) (hA : ∀ r ∈ A, r.length = m) (hl : A.length ≤ 1000) (hm : m ≤ 1000) (hz : A = [] → m = 0) : Cs (callF G GK n) 96 [.int q, rwD A] (.ok false (rwD (rw_ (echL ivF m (kers m (echL ivF m A))))) .non) := by
  have hcc : (if A = [] then 0 else m) = m := by split <;> simp_all
  have hE := echL_ech (ivF_ok hq) hA
  have hEl : (echL (ivF (q := q)) m A).length ≤ 1000 := by have := rankL_le_len (ivF_ok hq) hA; unfold rankL at this; omega
  have hech : ∀ k, 3 ≤ k → Cs (callF G GK k) 94 [.int q, rwD A] (.ok true (.lst ((echL ivF m A).map prD)) .non) := fun k hk => echelon_in_ok hk hq q1 q13 m A hA hl hm hz
  generalize hL : echL (ivF (q := q)) m A = L at *
  have hE2 := echL_ech (ivF_ok hq) (kers_rws m L)
  have hk2 := kers_len m L
  have hEl2 : (echL (ivF (q := q)) m (kers m L)).length ≤ 1000 := by have := rankL_le_len (ivF_ok hq) (kers_rws m L); unfold rankL at this; omega
  wtm_at "Rst"
  intro k hk
  generalize hB : ([.set (.v 7) _, .for _ _ _, .ex _] : List S) = B
  wtm_at "Rgo"
  refine ClQ.fz (columns_ok (by omega) m A hA hl hm) ?_
  rw [hcc]
  wtm_at "Rgo"
  refine ClQ.fr (hech k (by omega)) ?_
  wtm_at "Rgo"
  refine LcQ.filter (fun j => !(ld_ L).contains j) (fun j => .int (j : Int)) (by rw [List.length_range]; unfold lim; omega) (fun j hj => ?_) ?_
  · have hin : inop (.int (j : Int)) (.dct (List.foldl (fun a y => putK a (Sum.inl (y.1 : Int)) (wD y.2)) [] L)) = some ((ld_ L).contains j) := by
      simp only [inop, keyD, Option.map_some]
      rw [getK_fold (fun y : Nat × List (Fin q) => y.1) (fun y => wD y.2) j L []]
      rfl
    wtm_at "Rgo"
    refine ⟨_, by simp only [cmpop]; rw [hin]; rfl, ?_⟩
    wtm_at "Rgo"
    all_goals refine ⟨rfl, ?_⟩
    all_goals wtm_at "Rgo"
  · wtm_at "Rgo"
    rw [show List.filter (fun j => !(ld_ L).contains j) (List.range ((m : Nat) : Int).toNat) = freeL m L from by rw [Int.toNat_natCast]; rfl]
    refine FoQ.invM (fun l r e => ∃ s3 s7 s9 s10, e = [some (.sh, .int q), some (.sh, rwD A), some (.ow, .dct (List.foldl (fun a y => putK a (Sum.inl (y.1 : Int)) (wD y.2)) [] L)), s3, some (.sh, .int m), some (.ow, .lst (L.map prD)), some (.ow, .lst (l.map fun f => lwD (kv m L f))), s7, none, s9, s10] ∧ J s3 ∧ Jo s7 ∧ J s9 ∧ J s10) ⟨_, _, _, _, rfl, .non, .non, .non, .non⟩ ?_ ?_
    · rintro l f r e hl' ⟨s3, s7, s9, s10, rfl, j3, j7, j9, j10⟩
      have hf : f ∈ freeL m L := by rw [← hl']; simp
      have hfm := (mem_free.mp hf).1
      have hll := congrArg List.length hl'
      rw [List.length_append, List.length_cons] at hll
      have hfl : (freeL m L).length ≤ m := by have := kers_len m L; unfold kers at this; rw [List.length_map] at this; exact this
      subst hB
      wtm_at "Rgo"
      rw [show ((m : Nat) : Int).toNat = m from Int.toNat_natCast m, zD_unit q1]
      refine FoQ.invM (fun l' r' e => ∃ (v : List (Fin q)) (s9 s10 : Slot), e = [some (.sh, .int q), some (.sh, rwD A), some (.ow, .dct (List.foldl (fun a y => putK a (Sum.inl (y.1 : Int)) (wD y.2)) [] L)), some (.sh, .int f), some (.sh, .int m), some (.lk, .lst (L.map prD)), some (.ow, .lst (l.map fun f => lwD (kv m L f))), some (.ow, lwD v), none, s9, s10] ∧ v = l'.foldl (fun v p => v.set p.1 (-fnl p.2 f)) (unitL m f) ∧ v.length = m ∧ J s9 ∧ J s10) ⟨_, _, _, rfl, rfl, unitL_len m f, j9, j10⟩ ?_ ?_
      · rintro l' p r' e hl2 ⟨v, s9, s10, rfl, hv, hvl, j9, j10⟩
        have hp : p ∈ L := by rw [← hl2]; simp
        have hpl := hE.len p hp
        have hpt := hE.lt p hp
        have ha := at_fnl (r := p.2) (c := f) (by omega)
        wtm_at "Rgo"
        rw [Int.toNat_natCast, map_set_z (fz_neg (fnl p.2 f))]
        exact ⟨_, _, _, rfl, by rw [List.foldl_append, ← hv]; rfl, by rw [List.length_set]; exact hvl, .sh, .sh⟩
      · rintro e ⟨v, s9, s10, rfl, hv, hvl, j9, j10⟩
        rw [show v = kv m L f from hv]
        wtm_at "Rgo"
        exact ⟨_, _, _, _, by rw [List.map_append]; rfl, .sh, .sh, j9, j10⟩
    · rintro e ⟨s3, s7, s9, s10, rfl, j3, j7, j9, j10⟩
      have ek : List.map (fun f => lwD (kv m L f)) (freeL m L) = (kers m L).map lwD := by unfold kers; rw [List.map_map]; rfl
      rw [ek]
      have hech2 : Cs (callF G GK k) 94 [.int q, .lst ((kers m L).map lwD)] (.ok true (.lst ((echL ivF m (kers m L)).map prD)) .non) := by
        by_cases hz2 : kers m L = []
        · rw [hz2]
          have := echelon_in_okL (n := k) (by omega) hq q1 q13 0 [] (by simp) (by simp) (by omega) (fun _ => rfl)
          rw [echL_nil] at this ⊢
          exact this
        · exact echelon_in_okL (by omega) hq q1 q13 m _ (kers_rws m L) (by omega) (by omega) (fun h => absurd h hz2)
      wtm_at "Rgo"
      refine ClQ.fr hech2 ?_
      wtm_at "Rgo"
      all_goals (unfold rw_; rw [rwD, List.map_map]; rfl)
theorem kernel_ok (hn : 6 ≤ n) (hq : q ∈ [2, 3, 5, 7, 11, 13]) (q1 : 1 < q) (q13 : q ≤ 13) (m : Nat) (A : List (List (Fin q))) (hA : ∀ r ∈ A, r.length = m) (hl : A.length ≤ 60) (hm : m ≤ 60) (hz : A = [] → m = 0) : Cs (callF G GK n) 97 [.int q, rwD A] (.ok false (rwD (rw_ (echL ivF m (kers m (echL ivF m A))))) .non) := by
  wtm_at "Rst"
  intro k hk
  wtm_at "Rgo"
  refine ClQ.fz (require_base_rows_ok (by omega) hq m A hA hl hm) ?_
  wtm_at "Rgo"
  refine ClQ.fz (kernel_in_ok (by omega) hq q1 q13 m A hA (by omega) (by omega) hz) ?_
  wtm_at "Rgo"
theorem need_fit_ok (hn : 2 ≤ n) (m m' : Nat) (A B : List (List (Fin q))) (hA : ∀ r ∈ A, r.length = m) (hl : A.length ≤ 1000) (hm : m ≤ 1000) (hl' : B.length ≤ 1000) (hf : (if A = [] then 0 else m) = B.length) : Cs (callF G GK n) 98 [rwD A, rwD B] (.ok false .non .non) := by
  wtm_at "Rst"
  intro k hk
  wtm_at "Rgo"
  refine ClQ.fz (columns_ok (by omega) m A hA hl hm) ?_
  rw [hf]
  wtm_at "Rgo"
abbrev colF (A : List (List (Fin q))) (j : Nat) : List (Fin q) := A.map fun r => fnl r j
theorem column_of_ok (hn : 1 ≤ n) (m j : Nat) (A : List (List (Fin q))) (hA : ∀ r ∈ A, r.length = m) (hl : A.length ≤ 1000) (hj : j < m) : Cs (callF G GK n) 99 [rwD A, .int j] (.ok true (lwD (colF A j)) .non) := by
  wtm_at "Rst"
  intro k hk
  wtm_at "Rgo"
  refine LcQ.map (fun r => zD (fnl r j)) (by unfold lim; omega) (fun r hr => ?_) ?_
  · have ha := at_fnl (r := r) (c := j) (by rw [hA r hr]; exact hj)
    wtm_at "Rgo"
  · wtm_at "Rgo"
    all_goals (rw [lwD, colF, List.map_map]; rfl)
theorem lin_cz {w : Nat} (r : List (Fin q)) (A : List (List (Fin q))) (hA : Rws w A) : (List.range w).map (fun j => zD (dot r (colF A j))) = (lin w r A).map zD := by
  rw [lin_cols r A hA, List.map_map]; rfl
theorem base_product_in_ok (hn : 3 ≤ n) (q13 : q ≤ 13) (w : Nat) (A B : List (List (Fin q))) (hA : ∀ r ∈ A, r.length ≤ 1000) (hB : ∀ r ∈ B, r.length = w) (hl : A.length ≤ 1000) (hl' : B.length ≤ 1000) (hw : w ≤ 1000) (hz : B = [] → w = 0) : Cs (callF G GK n) 101 [.int q, rwD A, rwD B] (.ok false (rwD (A.map fun r => lin w r B)) .non) := by
  have hcc : (if B = [] then 0 else w) = w := by split <;> simp_all
  wtm_at "Rst"
  intro k hk
  wtm_at "Rgo"
  refine ClQ.fz (columns_ok (by omega) w B hB hl' hw) ?_
  rw [hcc]
  wtm_at "Rgo"
  rw [Int.toNat_natCast]
  refine LcQ.map (fun j : Nat => lwD (colF B j)) (by rw [List.length_range]; unfold lim; omega) (fun j hj => ?_) ?_
  · have hj := List.mem_range.mp hj
    wtm_at "Rgo"
    refine ClQ.fr (column_of_ok (by omega) w j B hB hl' hj) ?_
    wtm_at "Rgo"
  · wtm_at "Rgo"
    refine LcQ.map (fun r => wD (lin w r B)) (by unfold lim; omega) (fun r hr => ?_) ?_
    · have hr1 := hA r hr
      wtm_at "Rgo"
      refine LcQ.map (fun j : Nat => zD (dot r (colF B j))) (by rw [List.length_range]; unfold lim; omega) (fun j hj => ?_) ?_
      · wtm_at "Rgo"
        refine ClQ.fz (base_dot_ok (by omega) q13 r (colF B j) hr1) ?_
        wtm_at "Rgo"
      · rw [lin_cz r B hB]
        wtm_at "Rgo"
    · wtm_at "Rgo"
      all_goals (rw [rwD, List.map_map]; rfl)
theorem base_product_ok (hn : 6 ≤ n) (hq : q ∈ [2, 3, 5, 7, 11, 13]) (q13 : q ≤ 13) (m w : Nat) (A B : List (List (Fin q))) (hA : ∀ r ∈ A, r.length = m) (hB : ∀ r ∈ B, r.length = w) (hl : A.length ≤ 60) (hl' : B.length ≤ 60) (hm : m ≤ 60) (hw : w ≤ 60) (hz : B = [] → w = 0) (hf : (if A = [] then 0 else m) = B.length) : Cs (callF G GK n) 102 [.int q, rwD A, rwD B] (.ok false (rwD (A.map fun r => lin w r B)) .non) := by
  wtm_at "Rst"
  intro k hk
  wtm_at "Rgo"
  refine ClQ.fz (require_base_rows_ok (by omega) hq m A hA hl hm) ?_
  wtm_at "Rgo"
  refine ClQ.fz (require_base_rows_ok (by omega) hq w B hB hl' hw) ?_
  wtm_at "Rgo"
  refine ClQ.fz (need_fit_ok (by omega) m w A B hA (by omega) (by omega) (by omega) hf) ?_
  wtm_at "Rgo"
  refine ClQ.fz (base_product_in_ok (by omega) q13 w A B (fun r hr => by rw [hA r hr]; omega) hB (by omega) (by omega) (by omega) hz) ?_
  wtm_at "Rgo"
theorem law_columns_ok (hn : 1 ≤ n) (w : Nat) (A : List (List (Fin q))) (hA : ∀ r ∈ A, r.length = w) (hl : A.length ≤ 1000) (hw : w ≤ 1000) (hz : A = [] → w = 0) : Cs (callF G GK n) 104 [rwD A] (.ok false (rwD (trs w A)) .non) := by
  have fin : ∀ e : List D, e = (List.range w).map (fun j : Nat => wD (colF A j)) → CR.ok false (.tup e) .non = .ok false (rwD (trs w A)) .non := fun e h => by
    rw [h, rwD, trs, List.map_map]; rfl
  wtm_at "Rst"
  intro k hk
  cases A with
  | nil =>
    obtain rfl := hz rfl
    wtm_at "Rgo"
    refine LcQ.map (fun j : Nat => wD (colF ([] : List (List (Fin q))) j)) (by simp [lim]) (fun j hj => ?_) ?_
    · exact absurd (List.mem_range.mp hj) (by simp)
    · wtm_at "Rgo"
  | cons r0 A =>
    have h0 := hA r0 List.mem_cons_self
    rw [List.length_cons] at hl
    wtm_at "Rgo"
    rw [show (r0 :: A)[Int.toNat 0].length = w from h0, Int.toNat_natCast]
    refine LcQ.map (fun j : Nat => wD (colF (r0 :: A) j)) (by rw [List.length_range]; unfold lim; omega) (fun j hj => ?_) ?_
    · have hj := List.mem_range.mp hj
      wtm_at "Rgo"
      refine LcQ.map (fun r => zD (fnl r j)) (by rw [List.length_cons]; unfold lim; omega) (fun r hr => ?_) ?_
      · have ha := at_fnl (r := r) (c := j) (by rw [hA r hr]; exact hj)
        wtm_at "Rgo"
      · wtm_at "Rgo"
        exact ⟨by rw [wD, colF, List.map_map]; rfl, rfl⟩
    · wtm_at "Rgo"
      exact fin _ rfl
theorem law_base_product_ok (hn : 2 ≤ n) (q13 : q ≤ 13) (w : Nat) (A B : List (List (Fin q))) (hA : ∀ r ∈ A, r.length ≤ 1000) (hB : ∀ r ∈ B, r.length = w) (hl : A.length ≤ 1000) (hl' : B.length ≤ 1000) (hw : w ≤ 1000) (hz : B = [] → w = 0) : Cs (callF G GK n) 105 [.int q, rwD A, rwD B] (.ok false (rwD (A.map fun r => lin w r B)) .non) := by
  have q0 := qpos (q := q)
  wtm_at "Rst"
  intro k hk
  wtm_at "Rgo"
  refine ClQ.fz (law_columns_ok (by omega) w B hB hl' hw hz) ?_
  wtm_at "Rgo"
  refine FoQ.invM (fun l r e => ∃ s3, e = [some (.sh, .int q), some (.sh, rwD A), some (.sh, rwD B), s3, some (.ow, .lst (l.map fun r => wD (lin w r B))), some (.sh, rwD (trs w B)), none, none, none] ∧ J s3) ⟨_, rfl, .non⟩ ?_ ?_
  · rintro l r rr e hl' ⟨s3, rfl, j3⟩
    have hr := hA r (by rw [← hl']; simp)
    have hll := congrArg List.length hl'
    rw [List.length_append, List.length_cons] at hll
    have htl := trs_len w B
    wtm_at "Rgo"
    rw [show (trs w B).map (fun y => D.int (((r.zip y).map (fun y => fz y.1 * fz y.2)).sum % (q : Int))) = (lin w r B).map zD from by
      rw [← lin_cz r B hB, trs, List.map_map]
      refine List.map_congr_left fun j _ => ?_
      simp only [Function.comp]
      rw [sum_dot]]
    exact ⟨_, by rw [List.map_append]; rfl, .sh⟩
  · rintro e ⟨s3, rfl, j3⟩
    wtm_at "Rgo"
    all_goals (rw [rwD, List.map_map]; rfl)
end
end RT

namespace RT
open PySem
variable {n : Nat}
local macro_rules | `(tactic| wtm_at "Rcmpq") => `(tactic| with_reducible first | refine RT.cmp_eqw ?_ | refine RT.cmp_new ?_ | refine RT.cmp_eql ?_ | refine RT.cmp_nel ?_)
local macro_rules | `(tactic| wtm_at "Rcall") => `(tactic| refine RT.ClQ.fz (RT.is_whole_i (by omega) _) ?_)
local macro_rules | `(tactic| wtm_at "Rcall") => `(tactic| refine RT.ClQ.fz (RT.is_within_i (by omega) _ _ _) ?_)
local macro_rules | `(tactic| wtm_at "Ri64") => `(tactic| first | ((with_reducible refine Or.inl (RT.i64_fz ?_ _)) <;> omega) | ((with_reducible refine Or.inr (RT.i64_fz ?_ _)) <;> omega))
local macro_rules | `(tactic| wtm_at "Rcall") => `(tactic| refine RT.ClQ.fz (RT.is_base_z (by omega) _) ?_)
local macro_rules | `(tactic| wtm_at "Rcmpq") => `(tactic| with_reducible first | refine RT.cmp_eqr ?_ | refine RT.cmp_ner ?_)
local macro_rules | `(tactic| wtm_at "Ri64") => `(tactic| first | ((with_reducible refine Or.inl (RT.i64_fz ?_ _)) <;> omega) | ((with_reducible refine Or.inr (RT.i64_fz ?_ _)) <;> omega))
/-! SK06: ranks, echelons, kernels. -/
section
variable {q : Nat} [NeZero q]
theorem prods_sb {m : Nat} {A B : List (List (Fin q))} (hB : Rws m B) : Sb m (A.map fun r => lin m r B) B := fun r hr => by
  obtain ⟨a, _, rfl⟩ := List.mem_map.mp hr
  exact ⟨a, rfl⟩
theorem sb_app {m : Nat} {A B C : List (List (Fin q))} (h1 : Sb m A C) (h2 : Sb m B C) : Sb m (A ++ B) C := fun r hr => (List.mem_append.mp hr).elim (h1 r) (h2 r)
theorem rws_app {m : Nat} {A B : List (List (Fin q))} (h1 : Rws m A) (h2 : Rws m B) : Rws m (A ++ B) := fun r hr => (List.mem_append.mp hr).elim (h1 r) (h2 r)
theorem leads_rows (L : List (Nat × List (Fin q))) : L.map (fun p => wD p.2) = (rw_ L).map wD := by unfold rw_; rw [List.map_map]; rfl
end
theorem k06_right (hn : 7 ≤ n) (s : Int × Int × Int) : ∃ s', Cs (callF G GK n) 109 [spn s] (.ok false (.bl true) (spn s')) := by
  suffices hh : CsP (callF G GK n) 109 [spn s] (fun r => ∃ x : (Int × Int × Int), r = .ok false (.bl true) (spn x) ∧ True) by
    obtain ⟨s', c, _⟩ := hh.ex
    exact ⟨s', c⟩
  wtm_at "Rst"
  intro k hk
  wtm_at "Rgo"
  obtain ⟨qi, s1, hqi, c1⟩ := among_n (n := k) (by omega) s (xs := [2, 2, 3, 5, 7, 13]) (by simp) (by simp)
  simp only [List.mem_cons, List.not_mem_nil, or_false] at hqi
  refine ClQ.fz c1 ?_
  obtain ⟨q, rfl⟩ := Int.eq_ofNat_of_zero_le (show 0 ≤ qi by omega)
  have q1 : 1 < q := by omega
  have q13 : q ≤ 13 := by omega
  have hq : q ∈ [2, 3, 5, 7, 11, 13] := by simp only [List.mem_cons, List.not_mem_nil, or_false]; omega
  haveI : NeZero q := ⟨by omega⟩
  wtm_at "Rgo"
  obtain ⟨a, s2, a0, a1, c2⟩ := spin_ok (n := k) (by omega) s1 (t := 7) (by omega) (by omega)
  obtain ⟨a, rfl⟩ := Int.eq_ofNat_of_zero_le a0
  refine ClQ.fz c2 ?_
  wtm_at "Rgo"
  obtain ⟨b, s3, b0, b1, c3⟩ := spin_ok (n := k) (by omega) s2 (t := 7) (by omega) (by omega)
  obtain ⟨b, rfl⟩ := Int.eq_ofNat_of_zero_le b0
  refine ClQ.fz c3 ?_
  wtm_at "Rgo"
  obtain ⟨A, s4, hAl, hA, c4⟩ := law_rows_ok (q := q) (n := k) (by omega) q1 q13 s3 a b (by omega) (by omega)
  refine ClQ.fz c4 ?_
  wtm_at "Rgo"
  obtain ⟨w, hw1, hw0, hw6⟩ : ∃ w : Nat, (0 < a → w = b) ∧ (a = 0 → w = 0) ∧ w ≤ 6 := by
    by_cases h : a = 0
    · exact ⟨0, fun z => by omega, fun _ => rfl, by omega⟩
    · exact ⟨b, fun _ => rfl, fun z => absurd z h, by omega⟩
  have hA : ∀ r ∈ A, r.length = w := fun r hr => by
    have := List.length_pos_of_mem hr
    rw [hw1 (by omega)]; exact hA r hr
  have hwz : A = [] → w = 0 := fun h => hw0 (by rw [← hAl, h]; rfl)
  have hE := echL_ech (ivF_ok hq) hA
  have hrl := rankL_le_len (ivF_ok hq) hA
  have hel : (echL (ivF (q := q)) w A).length ≤ 6 := by unfold rankL at hrl; omega
  have hlen : (rw_ (echL (ivF (q := q)) w A)).length = rankL ivF w A := by unfold rw_ rankL; rw [List.length_map]
  have h10 := one_ne q1
  have hself := echL_self (ivF_ok hq) h10 hE
  have lead : Cs (callF G GK k) 108 [.int q, rwD A] (.ok true (.lst ((echL ivF w A).map prD)) .non) := law_leads_ok (by omega) hq q1 q13 w A hA (by omega) (by omega)
  have e1 : Cs (callF G GK k) 95 [.int q, rwD A] (.ok false (rwD (rw_ (echL ivF w A))) .non) := echelon_ok (by omega) hq q1 q13 w A hA (by omega) (by omega)
  have e2 : Cs (callF G GK k) 92 [.int q, rwD A] (.ok false (.int (rankL ivF w A : Nat)) .non) := base_rank_ok (by omega) hq q1 q13 w A hA (by omega) (by omega)
  have e3 : Cs (callF G GK k) 95 [.int q, rwD (rw_ (echL ivF w A))] (.ok false (rwD (rw_ (echL ivF w A))) .non) := by
    have := echelon_ok (n := k) (by omega) hq q1 q13 w (rw_ (echL ivF w A)) hE.rws (by omega) (by omega)
    rw [hself] at this
    exact this
  -- the kernel
  have hK := kers_rws w (echL (ivF (q := q)) w A)
  have hKE := echL_ech (ivF_ok hq) hK
  have hKl := kernel_len (ivF_ok hq) h10 hA
  have hKself := echL_self (ivF_ok hq) h10 hKE
  have hKd : ∀ r ∈ A, ∀ v ∈ rw_ (echL (ivF (q := q)) w (kers w (echL ivF w A))), dot r v = 0 := fun r hr v hv => kernel_dot (ivF_ok hq) hA hr hv
  have e9 : Cs (callF G GK k) 97 [.int q, rwD A] (.ok false (rwD (rw_ (echL ivF w (kers w (echL ivF w A))))) .non) := kernel_ok (by omega) hq q1 q13 w A hA (by omega) (by omega) hwz
  have hlen2 : (rw_ (echL (ivF (q := q)) w (kers w (echL ivF w A)))).length + rankL ivF w A = w := by unfold rw_; rw [List.length_map]; exact hKl
  have e10 : Cs (callF G GK k) 95 [.int q, rwD (rw_ (echL ivF w (kers w (echL ivF w A))))] (.ok false (rwD (rw_ (echL ivF w (kers w (echL ivF w A))))) .non) := by
    have := echelon_ok (n := k) (by omega) hq q1 q13 w _ hKE.rws (by omega) (by omega)
    rw [hKself] at this
    exact this
  generalize hdue : rw_ (echL (ivF (q := q)) w A) = due at *
  generalize hlost : rw_ (echL (ivF (q := q)) w (kers w (echL ivF w A))) = lost at *
  refine ClQ.fr lead ?_
  generalize hB : ([.set (.v 4) _, .ite _ _ _, .for _ _ _, .ret _] : List S) = B
  wtm_at "Rgo"
  rw [leads_rows, hdue]
  refine ClQ.fz e1 ?_
  wtm_at "Rgo"
  refine ClQ.fz e2 ?_
  wtm_at "Rgo"
  refine ClQ.fz e3 ?_
  wtm_at "Rgo"
  obtain ⟨d, s5, d0, d1, c5⟩ := spin_ok (n := k) (by omega) s4 (t := 4) (by omega) (by omega)
  obtain ⟨d, rfl⟩ := Int.eq_ofNat_of_zero_le d0
  refine ClQ.fz c5 ?_
  wtm_at "Rgo"
  rw [show (1 : Int) + (d : Int) = ((1 + d : Nat) : Int) from by omega]
  obtain ⟨M, s6, hMl, hM, c6⟩ := law_rows_ok (q := q) (n := k) (by omega) q1 q13 s5 (1 + d) a (by omega) (by omega)
  refine ClQ.fz c6 ?_
  have hMn : M ≠ [] := fun h => by rw [h] at hMl; simp at hMl; omega
  have e4 : Cs (callF G GK k) 102 [.int q, rwD M, rwD A] (.ok false (rwD (M.map fun r => lin w r A)) .non) := base_product_ok (by omega) hq q13 a w M A hM hA (by omega) (by omega) (by omega) (by omega) hwz (by rw [if_neg hMn]; exact hAl.symm)
  have e5 : Cs (callF G GK k) 105 [.int q, rwD M, rwD A] (.ok false (rwD (M.map fun r => lin w r A)) .non) := law_base_product_ok (by omega) q13 w M A (fun r hr => by rw [hM r hr]; omega) hA (by omega) (by omega) (by omega) hwz
  have hX : Rws w (M.map fun r => lin w r A) := fun r hr => by
    obtain ⟨x, _, rfl⟩ := List.mem_map.mp hr
    exact lin_length x A hA
  have hXs := prods_sb (A := M) hA
  have hXl : (M.map fun r => lin w r A).length ≤ 4 := by rw [List.length_map]; omega
  have r1 := rankL_mono (ivF_ok hq) h10 hX hA hXs
  generalize (M.map fun r => lin w r A) = X at *
  have u1 := echL_eq (ivF_ok hq) h10 (rws_app hA hX) hA (sb_app (Sb.refl hA) hXs) (Sb.of_sub (rws_app hA hX) fun r hr => List.mem_append_left _ hr)
  have u2 := echL_eq (ivF_ok hq) h10 (rws_app hX hA) hA (sb_app hXs (Sb.refl hA)) (Sb.of_sub (rws_app hX hA) fun r hr => List.mem_append_right _ hr)
  have e6 : Cs (callF G GK k) 92 [.int q, rwD X] (.ok false (.int (rankL ivF w X : Nat)) .non) := base_rank_ok (by omega) hq q1 q13 w X hX (by omega) (by omega)
  have e7 : Cs (callF G GK k) 92 [.int q, .tup (A.map wD ++ X.map wD)] (.ok false (.int (rankL ivF w A : Nat)) .non) := by
    have := base_rank_ok (n := k) (by omega) hq q1 q13 w (A ++ X) (rws_app hA hX) (by rw [List.length_append]; omega) (by omega)
    rw [show rankL (ivF (q := q)) w (A ++ X) = rankL ivF w A from by unfold rankL; rw [u1], rwD, List.map_append] at this
    exact this
  have e8 : Cs (callF G GK k) 95 [.int q, .tup (X.map wD ++ A.map wD)] (.ok false (rwD due) .non) := by
    have := echelon_ok (n := k) (by omega) hq q1 q13 w (X ++ A) (rws_app hX hA) (by rw [List.length_append]; omega) (by omega)
    rw [u2, hdue] at this
    rw [rwD, List.map_append] at this
    exact this
  have e11 : Cs (callF G GK k) 104 [rwD A] (.ok false (rwD (trs w A)) .non) := law_columns_ok (by omega) w A hA (by omega) (by omega) hwz
  have e12 : Cs (callF G GK k) 92 [.int q, rwD (trs w A)] (.ok false (.int (rankL ivF w A : Nat)) .non) := by
    have := base_rank_ok (n := k) (by omega) hq q1 q13 A.length (trs w A) (trs_rws w A) (by rw [trs_len]; omega) (by omega)
    rw [rank_trs (ivF_ok hq) h10 hA] at this
    exact this
  have tail : ∀ (s9 : Slot), J s9 → WB (callF G GK k) GK B [some (.io, spn s6), some (.sh, rwD A), some (.sh, .tup (due.map wD)), some (.sh, rwD M), none, none, some (.sh, .int q), some (.sh, .int a), some (.sh, .int b), s9, none, none, none, none] (EndQ true [spn s] fun r => ∃ x, r = CR.ok false (D.bl true) (spn x) ∧ True) := by
    intro s9 j9
    subst hB
    wtm_at "Rgo"
    refine ClQ.fz e9 ?_
    wtm_at "Rgo"
    all_goals refine ClQ.fz e10 ?_
    all_goals wtm_at "Rgo"
    all_goals (
      refine FoQ.invM (fun l r e => ∃ (s5 : Slot), e = [some (.io, spn s6), some (.sh, rwD A), some (.sh, .tup (due.map wD)), some (.sh, rwD M), some (.sh, rwD lost), s5, some (.sh, .int q), some (.sh, .int a), some (.sh, .int b), s9, none, none, none, none] ∧ J s5) ⟨_, rfl, .non⟩ ?_ ?_
      · rintro l r rr e hl' ⟨s5, rfl, j5⟩
        have hr : r ∈ A := by rw [← hl']; simp
        have hrl' := hA r hr
        have hf : lost.filter (fun y => decide ¬(((r.zip y).map fun y => fz y.1 * fz y.2).sum % (q : Int) = 0)) = [] := by
          rw [List.filter_eq_nil_iff]
          intro v hv
          rw [sum_dot, hKd r hr v hv]
          simp [fz_zero]
        have hf2 : deq (.lst ((lost.filter (fun y => decide ¬(((r.zip y).map fun y => fz y.1 * fz y.2).sum % (q : Int) = 0))).map wD)) (.lst []) = true := by rw [hf]; rfl
        wtm_at "Rgo"
        all_goals first
          | exact .sh
          | (rename_i hp; rw [hf2] at hp; cases hp)
      · rintro e ⟨s5, rfl, j5⟩
        wtm_at "Rgo"
        all_goals trivial)
  wtm_at "Rgo"
  refine ClQ.fz e4 ?_
  wtm_at "Rgo"
  refine ClQ.fz e5 ?_
  wtm_at "Rgo"
  · refine ClQ.fz e5 ?_
    wtm_at "Rgo"
    refine ClQ.fz e6 ?_
    wtm_at "Rgo"
    refine ClQ.fz e7 ?_
    wtm_at "Rgo"
    refine ClQ.fz e8 ?_
    wtm_at "Rgo"
    refine ClQ.fz e11 ?_
    wtm_at "Rgo"
    refine ClQ.fz e12 ?_
    wtm_at "Rgo"
    all_goals exact tail _ .sh
  · all_goals exact tail _ .non
section
variable {q : Nat} [NeZero q]
theorem base_rank_c (hn : 6 ≤ n) (hq : q ∈ [2, 3, 5, 7, 11, 13]) (q1 : 1 < q) (q13 : q ≤ 13) (m : Nat) (A : List (List (Fin q))) (v : Nat) (h : (A.all fun r => decide (r.length = m)) = true) (hl : A.length ≤ 60) (hm : m ≤ 60) (e : rankL ivF m A = v) : Cs (callF G GK n) 92 [.int q, rwD A] (.ok false (.int v) .non) := by
  subst e
  exact base_rank_ok hn hq q1 q13 m A (fun r hr => of_decide_eq_true (List.all_eq_true.mp h r hr)) hl hm
theorem echelon_c (hn : 6 ≤ n) (hq : q ∈ [2, 3, 5, 7, 11, 13]) (q1 : 1 < q) (q13 : q ≤ 13) (m : Nat) (A B : List (List (Fin q))) (h : (A.all fun r => decide (r.length = m)) = true) (hl : A.length ≤ 60) (hm : m ≤ 60) (e : rw_ (echL ivF m A) = B) : Cs (callF G GK n) 95 [.int q, rwD A] (.ok false (rwD B) .non) := by
  subst e
  exact echelon_ok hn hq q1 q13 m A (fun r hr => of_decide_eq_true (List.all_eq_true.mp h r hr)) hl hm
theorem kernel_c (hn : 6 ≤ n) (hq : q ∈ [2, 3, 5, 7, 11, 13]) (q1 : 1 < q) (q13 : q ≤ 13) (m : Nat) (A B : List (List (Fin q))) (h : (A.all fun r => decide (r.length = m)) = true) (hl : A.length ≤ 60) (hm : m ≤ 60) (hz : A = [] → m = 0) (e : rw_ (echL ivF m (kers m (echL ivF m A))) = B) : Cs (callF G GK n) 97 [.int q, rwD A] (.ok false (rwD B) .non) := by
  subst e
  exact kernel_ok hn hq q1 q13 m A (fun r hr => of_decide_eq_true (List.all_eq_true.mp h r hr)) hl hm hz
end
theorem great_eq : (List.range (60 : Int).toNat).map (fun y : Nat => D.tup ((List.range (60 : Int).toNat).map fun z : Nat => D.int (if decide ((y : Int) = (z : Int)) = true then 1 else 0))) = (unitR 60 : List (List (Fin 13))).map wD := by
  unfold unitR
  rw [List.map_map]
  refine List.map_congr_left fun y _ => ?_
  simp only [Function.comp]
  rw [wD, ← zD_unit (q := 13) (by omega) 60 y]
  congr 1
  refine List.map_congr_left fun z _ => ?_
  congr 2
  exact congrArg (· = true) (decide_eq_decide.mpr ⟨Eq.symm, Eq.symm⟩)
theorem k06_law (hn : 8 ≤ n) (xs : List Int) (hl : xs.length ≤ 63) : ∃ fr io, Cs (callF G GK n) 110 [.sls (xs.map .int)] (.ok fr (.bl true) io) := by
  refine ⟨false, .non, ?_⟩
  wtm_at "Rst"
  intro k hk
  wtm_at "Rgo"
  refine FoQ.invM (fun l r e => ∃ (s1 s4 s5 : Slot), e = [some (.sh, .sls (xs.map .int)), s1, none, none, s4, s5, none, none] ∧ J s1 ∧ Jo s4 ∧ J s5) ⟨_, _, _, rfl, .non, .non, .non⟩ ?_ ?_
  · rintro l i r e hr ⟨s1, s4, s5, rfl, j1, j4, j5⟩
    obtain ⟨rfl, hr2⟩ := range_at hr
    obtain ⟨s, c⟩ := spins_ok (n := k) (by omega) xs hl l.length (by omega)
    wtm_at "Rgo"
    refine ClQ.fr c ?_
    wtm_at "Rgo"
    refine FoQ.invM (fun l' r' e => ∃ (s : Int × Int × Int) (s5 : Slot), e = [some (.sh, .sls (xs.map .int)), some (.sh, .int (l.length : Int)), none, none, some (.ow, spn s), s5, none, none] ∧ J s5) ⟨s, _, rfl, j5⟩ ?_ ?_
    · rintro l' i r' e hr' ⟨s, s5, rfl, j5⟩
      wtm_at "Rgo"
      obtain ⟨s', c⟩ := k06_right (n := k) (by omega) s
      refine ClQ.fz c ?_
      wtm_at "Rgo"
      exact ⟨s', _, rfl, .sh⟩
    · rintro e ⟨s, s5, rfl, j5⟩
      wtm_at "Rgo"
      exact ⟨_, _, _, rfl, .sh, .ow, j5⟩
  · rintro e ⟨s1, s4, s5, rfl, j1, j4, j5⟩
    have t1 : Cs (callF G GK k) 92 [.int 3, .tup [.tup [.int 1, .int 2], .tup [.int 2, .int 1]]] (.ok false (.int 1) .non) := base_rank_c (q := 3) (by omega) (by decide) (by omega) (by omega) 2 [[1, 2], [2, 1]] 1 (by decide) (by decide) (by omega) (by decide +kernel)
    have t2 : Cs (callF G GK k) 95 [.int 3, .tup [.tup [.int 0, .int 2, .int 1], .tup [.int 1, .int 1, .int 1], .tup [.int 1, .int 0, .int 2]]] (.ok false (.tup [.tup [.int 1, .int 0, .int 2], .tup [.int 0, .int 1, .int 2]]) .non) := echelon_c (q := 3) (by omega) (by decide) (by omega) (by omega) 3 [[0, 2, 1], [1, 1, 1], [1, 0, 2]] [[1, 0, 2], [0, 1, 2]] (by decide) (by decide) (by omega) (by decide +kernel)
    have t3 : Cs (callF G GK k) 97 [.int 3, .tup [.tup [.int 1, .int 1, .int 1]]] (.ok false (.tup [.tup [.int 1, .int 0, .int 2], .tup [.int 0, .int 1, .int 2]]) .non) := kernel_c (q := 3) (by omega) (by decide) (by omega) (by omega) 3 [[1, 1, 1]] [[1, 0, 2], [0, 1, 2]] (by decide) (by decide) (by omega) (by decide) (by decide +kernel)
    have t4 : Cs (callF G GK k) 102 [.int 2, .tup [.tup [.int 1, .int 1], .tup [.int 0, .int 1]], .tup [.tup [.int 1], .tup [.int 1]]] (.ok false (.tup [.tup [.int 0], .tup [.int 1]]) .non) := by
      have := base_product_ok (q := 2) (n := k) (by omega) (by decide) (by omega) 2 1 [[1, 1], [0, 1]] [[1], [1]] (by decide) (by decide) (by decide) (by decide) (by omega) (by omega) (by decide) (by decide)
      exact this
    have t5 : Cs (callF G GK k) 92 [.int 13, .tup ((unitR 60 : List (List (Fin 13))).map wD)] (.ok false (.int 60) .non) := by
      have := base_rank_ok (q := 13) (n := k) (by omega) (by decide) (by omega) (by omega) 60 (unitR 60) (unitR_rws 60) (by unfold unitR; simp) (by omega)
      rw [rank_unit (ivF_ok (by decide)) (one_ne (by omega))] at this
      exact this
    have t6 : Cs (callF G GK k) 97 [.int 13, .tup ((unitR 60 : List (List (Fin 13))).map wD)] (.ok false (.tup []) .non) := by
      have := kernel_ok (q := 13) (n := k) (by omega) (by decide) (by omega) (by omega) 60 (unitR 60) (unitR_rws 60) (by unfold unitR; simp) (by omega) (fun h => by have := congrArg List.length h; unfold unitR at this; simp at this)
      have hk := kernel_len (ivF_ok (q := 13) (by decide)) (one_ne (by omega)) (unitR_rws (K := Fin 13) 60)
      rw [rank_unit (ivF_ok (by decide)) (one_ne (by omega))] at hk
      have hk2 : echL (ivF (q := 13)) 60 (kers 60 (echL ivF 60 (unitR 60))) = [] := List.eq_nil_of_length_eq_zero (by omega)
      rw [hk2] at this
      exact this
    have t7 : Cs (callF G GK k) 95 [.int 2, .tup [.tup [], .tup []]] (.ok false (.tup []) .non) := echelon_c (q := 2) (by omega) (by decide) (by omega) (by omega) 0 [[], []] [] (by decide) (by decide) (by omega) (by decide +kernel)
    have t8 : Cs (callF G GK k) 97 [.int 5, .tup [.tup [.int 0, .int 0]]] (.ok false (.tup [.tup [.int 1, .int 0], .tup [.int 0, .int 1]]) .non) := kernel_c (q := 5) (by omega) (by decide) (by omega) (by omega) 2 [[0, 0]] [[1, 0], [0, 1]] (by decide) (by decide) (by omega) (by decide) (by decide +kernel)
    have t9 : Cs (callF G GK k) 92 [.int 2, .tup []] (.ok false (.int 0) .non) := base_rank_c (q := 2) (by omega) (by decide) (by omega) (by omega) 0 [] 0 (by decide) (by decide) (by omega) (by decide +kernel)
    have t10 : Cs (callF G GK k) 97 [.int 2, .tup []] (.ok false (.tup []) .non) := kernel_c (q := 2) (by omega) (by decide) (by omega) (by omega) 0 [] [] (by decide) (by decide) (by omega) (by decide) (by decide +kernel)
    wtm_at "Rgo"
    refine ClQ.fz t1 ?_
    wtm_at "Rgo"
    refine ClQ.fz t2 ?_
    wtm_at "Rgo"
    refine ClQ.fz t3 ?_
    wtm_at "Rgo"
    refine ClQ.fz t4 ?_
    wtm_at "Rgo"
    rw [great_eq]
    refine ClQ.fz t5 ?_
    wtm_at "Rgo"
    refine ClQ.fz t6 ?_
    wtm_at "Rgo"
    refine ClQ.fz t7 ?_
    wtm_at "Rgo"
    refine ClQ.fz t8 ?_
    wtm_at "Rgo"
    refine ClQ.fz t9 ?_
    wtm_at "Rgo"
    refine ClQ.fz t10 ?_
    wtm_at "Rgo"
    all_goals trace_state
end RT

open PySem PySem.W PySem.Calls PyProof.Rows
set_option maxHeartbeats 0
open RT in
theorem evLaw : ∀ ns : List Int, ns.length ≤ 63 → ∃ fr io, RT.callF LawT.txt.TB LawT.txt.Kc 100 110 [.sls (ns.map RT.D.int)] = .ok fr (.bl true) io := fun ns hl => by
  rw [RT.G_eq, RT.GK_eq]
  obtain ⟨fr, io, c⟩ := RT.k06_law (n := 100) (by decide) ns hl
  exact ⟨fr, io, c.h⟩
theorem PySem.Challenge.cw_rowsthrough_k06_whole_ranks_echelons_and_holds : PySem.Challenge.rw_rowsthrough_k06_whole_ranks_echelons_and.Holds := by
  w_on; o_law
  refine HandSHeadRun.head_any (r := OpenLaw.row PySem.Challenge.rw_rowsthrough_k06_whole_ranks_echelons_and) (q := view (OpenLaw.row PySem.Challenge.rw_rowsthrough_k06_whole_ranks_echelons_and).prog [46]) (H := Hd.hk) (ob := Hd.ob) (M := 15000) (loose := Hd.names) (d := HandSHeadRun.topDef (OpenLaw.row PySem.Challenge.rw_rowsthrough_k06_whole_ranks_echelons_and).prog 46) (kwd := []) Hd.obEq
    (by kernel_rfl) (fun s => by kernel_rfl) Hd.run (by kernel_rfl) (by kernel_rfl) (by kernel_rfl) (by rfl) (by first | assumption | decide +kernel) (by decide +kernel) ⟨rfl, rfl, rfl, rfl, rfl, by decide +kernel⟩ ?hw ?hc
  case hw => w_witness2
  case hc =>
    refine L2.walk_ofE (l := PySem.Challenge.rw_rowsthrough_k06_whole_ranks_echelons_and) (n := 63) (k := 200) (x := "script") (CX := RT.CXa (PySem.Challenge.rw_rowsthrough_k06_whole_ranks_echelons_and).prog) rfl (by decide) (by kernel_rfl) ⟨rfl, by decide, by decide⟩ ?F ?hCX
    case F =>
      intro w mg fa h Y G hmg0
      obtain ⟨K, KX, c⟩ := Y
      have hmg : mg ("law" : PySem.Str) = some (.ref fa) := by
        have e : (HandSHeadRun.topDef (OpenLaw.row PySem.Challenge.rw_rowsthrough_k06_whole_ranks_echelons_and).prog 46).name = ("law" : PySem.Str) := by kernel_rfl
        rw [← e]
        exact hmg0
      exact RT.law_end (t := LawT.txt) (n := 100) (fn := 110) (x := "script") (d := RT.fn_110) (nm := LawT.law_n) c KX G hmg rfl rfl rfl rfl evLaw
    case hCX => exact RT.cxa_no
