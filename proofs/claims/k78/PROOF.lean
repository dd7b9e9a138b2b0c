import PyProof.Rows.All
import HandS.ForMost
import HandS.ForExc
import HandS.Flow
import HandS.Style
import HandS.Wide
import HandS.TupAny
import HandS.TupMul
import HandS.IsInst
import HandS.Small
import HandS.Conv
import HandS.Lambda
import HandS.EndTab
import KE.GoesEnum
import HandS.ExcIs
import HandS.ExcField
import HandS.TryMany
import HandS.EndOwn
import KE.DatumOrd
import KE.KDflt
import PySem.Challenge.RW_weighhouse_k78_whole_piles_that_stand_or
import KE.KExcLine
section
set_option Elab.async false
set_option linter.all false
set_option maxRecDepth 100000
set_option maxHeartbeats 4000000
/-! Pyd, part A: values without a heap, and an interpreter of the functional part of the language over the model's own trees.
A list that a local name alone holds is OWNED (it may be changed in place); stored anywhere else it is frozen: data for ever. -/
namespace Pyd
open PySem

inductive D where
  | non | bl (b : Bool) | int (i : Int) | str (s : Str) | tup (ds : List D) | lst (ds : List D) | fn (k : Nat) | emp | scr (ns : List Int)

/-- an object that may change -/
inductive Ob where
  | lst (ds : List D)
/-- what a slot holds: nothing, data, an object of its own, an object borrowed from the caller -/
inductive Sl where
  | emp | val (d : D) | own (o : Ob) | bor (o : Ob)
/-- what an expression gives: data, a new object, the object that slot i holds -/
inductive Rv where
  | val (d : D) | own (o : Ob) | var (i : Nat)
inductive Out (α : Type) where
  | ok (a : α) (ρ : List Sl) | exc (c : Str) (x : Option D) (ρ : List Sl) | bad
abbrev M (α : Type) := List Sl → Out α
namespace M
def ret {α : Type} (a : α) : M α := fun ρ => .ok a ρ
def bad {α : Type} : M α := fun _ => .bad
def bnd {α β : Type} (m : M α) (k : α → M β) : M β := fun ρ => match m ρ with
  | .ok a ρ' => k a ρ'
  | .exc c x ρ' => .exc c x ρ'
  | .bad => .bad
def opt {α : Type} (o : Option α) : M α := fun ρ => match o with
  | some a => .ok a ρ
  | none => .bad
def guard {α : Type} (b : Bool) (m : M α) : M α := match b with | true => m | false => bad
end M
open M

def Ob.data : Ob → D
  | .lst ds => .lst ds
/-- the data that a result shows now -/
def peek (r : Rv) (ρ : List Sl) : Option D := match r with
  | .val d => some d
  | .own o => some o.data
  | .var i => match ρ[i]? with
    | some (.val d) => some d
    | some (.own o) => some o.data
    | some (.bor o) => some o.data
    | _ => none
/-- a result made data for ever -/
def frz (r : Rv) : M D := fun ρ => match r with
  | .val d => .ok d ρ
  | .own o => .ok o.data ρ
  | .var i => match ρ[i]? with
    | some (.val d) => .ok d ρ
    | some (.own o) => .ok o.data (ρ.set i (.val o.data))
    | _ => .bad
def frzs : List Rv → M (List D)
  | [] => ret []
  | r :: rs => bnd (frz r) fun d => bnd (frzs rs) fun ds => ret (d :: ds)
def look (r : Rv) : M D := fun ρ => match peek r ρ with
  | some d => .ok d ρ
  | none => .bad
def looks : List Rv → M (List D)
  | [] => ret []
  | r :: rs => bnd (look r) fun d => bnd (looks rs) fun ds => ret (d :: ds)

/-! ### data -/
mutual
def D.py : D → PyData
  | .non => .none
  | .bl b => .bool b
  | .int i => .int i
  | .str s => .str s
  | .tup ds => .tuple (D.pys ds)
  | .lst ds => .list (D.pys ds)
  | .fn _ => .dict []
  | .emp => .dict []
  | .scr _ => .dict []
def D.pys : List D → List PyData
  | [] => []
  | d :: ds => D.py d :: D.pys ds
end
/-- == of two data -/
def eqD (a b : D) : Option Bool := match SeqAt.shaped a.py && SeqAt.shaped b.py with
  | true => some (PyData.eqv a.py b.py)
  | false => none
def truD : D → Option Bool
  | .non => some false
  | .bl b => some b
  | .int i => some (i != 0)
  | .str s => match decide (s.length ≤ sizeLine) with | true => some ((s.length : Int) != 0) | false => none
  | .tup ds => some !ds.isEmpty
  | .lst ds => some !ds.isEmpty
  | _ => none
def okLen (n : Nat) : Bool := decide (n ≤ sizeLine)
def okMul (i j : Int) : Bool := decide (i.natAbs < 2 ^ 60) || (decide (j.natAbs < 2 ^ 60) || decide (i.natAbs.log2 + j.natAbs.log2 < 1000000))
def okDiv (j : Int) : Bool := decide (0 < j) && decide (j.natAbs.log2 < 9000)
def small (i : Int) : Bool := decide (-(2 ^ 62) ≤ i) && decide (i < 2 ^ 62)
def chk {α : Type} (b : Bool) (a : Option α) : Option α := match b with | true => a | false => none

def binD (op : Operator) (a b : D) : Option Rv := match op, a, b with
  | .Add, .int i, .int j => some (.val (.int (i + j)))
  | .Add, .tup xs, .tup ys => chk (okLen (xs.length + ys.length)) (some (.val (.tup (xs ++ ys))))
  | .Add, .lst xs, .lst ys => chk (okLen (xs.length + ys.length)) (some (.own (.lst (xs ++ ys))))
  | .Sub, .int i, .int j => some (.val (.int (i - j)))
  | .Mult, .int i, .int j => chk (okMul i j) (some (.val (.int (i * j))))
  | .Mult, .tup xs, .int k => chk (!xs.isEmpty && decide (2 ≤ k) && decide (k ≤ 1000) && decide (xs.length ≤ 1000)) (some (.val (.tup (List.replicate k.toNat xs).flatten)))
  | .Mult, .lst xs, .int k => chk (small k && okLen (xs.length * k.toNat)) (some (.own (.lst (List.replicate k.toNat xs).flatten)))
  | .FloorDiv, .int i, .int j => chk (okDiv j) (some (.val (.int (i / j))))
  | .Mod, .int i, .int j => chk (decide (0 < j)) (some (.val (.int (i % j))))
  | .Pow, .int i, .int j => chk (decide (0 ≤ j) && decide (j ≤ 1000) && decide (i.natAbs < 2 ^ 64)) (some (.val (.int (i ^ j.toNat))))
  | _, _, _ => none
def flatD : D → Bool
  | .non | .bl _ | .int _ | .str _ => true
  | _ => false
def eqF : D → D → Bool
  | .non, .non => true
  | .bl a, .bl b => a == b
  | .bl a, .int b => (if a then 1 else 0) == b
  | .int a, .bl b => a == (if b then 1 else 0)
  | .int a, .int b => a == b
  | .str a, .str b => a == b
  | _, _ => false
def seqD : D → Option (List D)
  | .tup ds => some ds
  | .lst ds => some ds
  | _ => none
def inD (x xs : D) : Option Bool := match seqD xs with
  | some ds => chk (flatD x && ds.all flatD) (some (ds.any fun y => eqF y x))
  | none => none
def isD : D → D → Option Bool
  | .non, .non => some true
  | _, .non => some false
  | .bl a, .bl b => some (decide (a = b))
  | _, _ => none
def minI : List Int → Int
  | [] => 0
  | [x] => x
  | x :: r => min x (minI r)
def intsD : List D → Option (List Int)
  | [] => some []
  | .int i :: r => (intsD r).map (i :: ·)
  | _ => none
/-- tuples of ints -/
def tupsI : List D → Option (List (List Int))
  | [] => some []
  | .tup ds :: r => match intsD ds, tupsI r with | some a, some b => some (a :: b) | _, _ => none
  | _ => none
/-- the first of the least -/
def minT (a : List Int) (r : List (List Int)) : List Int := r.foldl (fun a y => if HT.lexLt y a then y else a) a
/-- min of a list: of ints, of tuples of ints -/
def minO : Option (List Int) → List D → Option Rv
  | some ns, _ => some (.val (.int (minI ns)))
  | none, ds => match tupsI ds with
    | some (a :: r) => some (.val (.tup ((minT a r).map D.int)))
    | _ => none
def ltT : Option (List Int) → Option (List Int) → Option Bool
  | some ns, some ms => some (HT.lexLt ns ms)
  | _, _ => none
def cmpD (op : CmpOp) (a b : D) : Option Bool := match op with
  | .Eq => eqD a b
  | .NotEq => (eqD a b).map (!·)
  | .Lt => match a, b with
    | .int i, .int j => some (decide (i < j))
    | .tup xs, .tup ys => ltT (intsD xs) (intsD ys)
    | _, _ => none
  | .LtE => match a, b with | .int i, .int j => some (decide (i ≤ j)) | _, _ => none
  | .Gt => match a, b with | .int i, .int j => some (decide (j < i)) | _, _ => none
  | .GtE => match a, b with | .int i, .int j => some (decide (j ≤ i)) | _, _ => none
  | .Is => isD a b
  | .IsNot => (isD a b).map (!·)
  | .In => inD a b
  | .NotIn => (inD a b).map (!·)
def unD (op : UnaryOp) (a : D) : Option Rv := match op, a with
  | .USub, .int i => some (.val (.int (-i)))
  | .Not, d => (truD d).map fun b => .val (.bl (!b))
  | _, _ => none
def ixD (a i : D) : Option D := match a, i with
  | .tup ds, .int k => L2.atI ds k
  | .lst ds, .int k => L2.atI ds k
  | _, _ => none
def cutD (xs : List D) (lo hi : Option Int) : List D := (xs.drop (HT.sIx xs.length 0 lo)).take (HT.sIx xs.length xs.length hi - HT.sIx xs.length 0 lo)
def slD (a : D) (lo hi : Option Int) : Option Rv := match a with
  | .tup ds => some (.val (.tup (cutD ds lo hi)))
  | .lst ds => some (.own (.lst (cutD ds lo hi)))
  | .scr ns => some (.own (.lst (cutD (ns.map D.int) lo hi)))
  | _ => none

/-- xs[::-1] -/
def revD : D → Option Rv
  | .tup ds => some (.val (.tup ds.reverse))
  | .lst ds => some (.own (.lst ds.reverse))
  | _ => none
/-! ### built-ins by data -/
/-- whether each of them is true: bools and ints -/
def blsD : List D → Option (List Bool)
  | [] => some []
  | .bl b :: r => (blsD r).map (b :: ·)
  | .int i :: r => (blsD r).map ((i != 0) :: ·)
  | _ => none
def maxI : List Int → Int
  | [] => 0
  | [x] => x
  | x :: r => max x (maxI r)
def lenD : D → Option Nat
  | .tup ds => some ds.length
  | .lst ds => some ds.length
  | .str s => chk (okLen s.length) (some s.length)
  | _ => none
/-- a call of a built-in function that changes nothing -/
def biD (nm : String) (as : List D) : Option Rv := match nm, as with
  | "len", [d] => (lenD d).map fun n => .val (.int n)
  | "abs", [.int i] => some (.val (.int (if i < 0 then -i else i)))
  | "all", [.lst ds] => (blsD ds).map fun bs => .val (.bl (bs.all id))
  | "any", [.lst ds] => (blsD ds).map fun bs => .val (.bl (bs.any id))
  | "repr", [.bl b] => some (.val (.str (if b then "True" else "False")))
  | "sum", [.lst ds] => (intsD ds).map fun ns => .val (.int ns.sum)
  | "sum", [.tup ds] => (intsD ds).map fun ns => .val (.int ns.sum)
  | "max", [.lst ds] => chk (!ds.isEmpty) ((intsD ds).map fun ns => .val (.int (maxI ns)))
  | "min", [.lst ds] => chk (!ds.isEmpty) (minO (intsD ds) ds)
  | "max", [.int i, .int j] => some (.val (.int (if j > i then j else i)))
  | "min", [.int i, .int j] => some (.val (.int (if j < i then j else i)))
  | _, _ => none
/-- a call of a built-in class -/
def tyD (n : String) (as : List D) : Option Rv := match n, as with
  | "int", [.int i] => some (.val (.int i))
  | "int", [.bl b] => some (.val (.int (if b then 1 else 0)))
  | "bool", [.int i] => some (.val (.bl (i != 0)))
  | "bool", [.bl b] => some (.val (.bl b))
  | "tuple", [.tup ds] => some (.val (.tup ds))
  | "tuple", [.lst ds] => some (.val (.tup ds))
  | "list", [.tup ds] => some (.own (.lst ds))
  | "list", [.lst ds] => some (.own (.lst ds))
  | _, _ => none
def kindD : D → Option String
  | .non => some "NoneType"
  | .bl _ => some "bool"
  | .int _ => some "int"
  | .str _ => some "str"
  | .tup _ => some "tuple"
  | .lst _ => some "list"
  | .emp => some "dict"
  | .scr _ => some "list"
  | .fn _ => none
/-- isinstance(d, n), n a built-in class -/
def isiD (d : D) (n : String) : Option Bool := match kindD d with
  | some k => match n with
    | "int" => some (k == "int" || k == "bool")
    | "bool" => some (k == "bool")
    | "str" => some (k == "str")
    | "tuple" => some (k == "tuple")
    | "list" => some (k == "list")
    | "dict" => some (k == "dict")
    | _ => none
  | none => none
def rgD (a b : Int) : List D := (List.range (b - a).toNat).map fun i => D.int (a + (i : Nat))
/-- range(i, j, c) -/
def rg3D (i j c : Int) : List D := (List.range (Builtin.Range.rangeSize i j c).toNat).map fun (k : Nat) => D.int (i + (k : Int) * c)
def okRg3 (i j c : Int) : Bool := (decide (c ≠ 0) && decide (c.natAbs < 1073741824)) && (Builtin.Range.small i j c && (decide (0 ≤ Builtin.Range.rangeSize i j c) && decide ((Builtin.Range.rangeSize i j c).toNat ≤ 2 ^ 24)))
def okRg (a b : Int) : Bool := small a && small b && decide ((b - a).toNat ≤ 2 ^ 24)

/-! ### the interpreter -/
inductive Gb where
  | fn (k : Nat) | word (k : Nat) | exc (arg : Bool) | const (d : D) | bi (id : String) | ty (n : String) | flag (b : Bool)
/-- what a helper that catches makes of the end of what it was handed -/
structure WordH where
  ok : D
  exc : Str → Option D → Option D
structure Cfg where
  N : List Str
  glob : Str → Option Gb
  R : Nat → List Sl → Out Rv
  flags : Nat → List Bool
  words : Nat → WordH
  lam : Bool
  dsc : Scope
  su : Bool
/-- the error that a helper caught, as a value -/
def exnK : Nat := 999999
inductive Flow where
  | nx | ret (r : Rv)

/-- the place of a name of one's own -/
def slotOf (N : List Str) (sc : Scope) (x : Str) : Option Nat := match sc.names.lookup x with
  | some .local | some .cell | some .free => match x == ("__debug__" : Str) || x == ("__classdict__" : Str) with
    | true => none
    | false => N.findIdx? (· == x)
  | _ => none
def globOf (C : Cfg) (sc : Scope) (x : Str) : Option Gb := match sc.names.lookup x with
  | some .globalImplicit => match x == ("__debug__" : Str) || x == ("__name__" : Str) with
    | true => none
    | false => C.glob x
  | _ => none
def storeAt (i : Nat) (s : Sl) : M Unit := fun ρ => match ρ[i]? with
  | some (.bor _) => .bad
  | some _ => .ok () (ρ.set i s)
  | none => .bad
/-- a result as it is stored -/
def toSl (r : Rv) : M Sl := match r with
  | .own o => ret (.own o)
  | r => bnd (frz r) fun d => ret (.val d)
def argOf (flag : Bool) (r : Rv) : M Sl := match flag with
  | false => bnd (frz r) fun d => ret (.val d)
  | true => match r with
    | .val d => ret (.val d)
    | .own o => ret (.bor o)
    | .var i => fun ρ => match ρ[i]? with
      | some (.val d) => .ok (.val d) ρ
      | some (.own o) => .ok (.bor o) ρ
      | some (.bor o) => .ok (.bor o) ρ
      | _ => .bad
def argsOf : List Bool → List Rv → M (List Sl)
  | f :: fs, r :: rs => bnd (argOf f r) fun s => bnd (argsOf fs rs) fun ss => ret (s :: ss)
  | [], r :: rs => bnd (argOf false r) fun s => bnd (argsOf [] rs) fun ss => ret (s :: ss)
  | _, [] => ret []
/-- the places of the names that are lent -/
def lent : List Bool → List Rv → List Nat
  | true :: fs, .var i :: rs => i :: lent fs rs
  | _ :: fs, _ :: rs => lent fs rs
  | _, _ => []
/-- what was lent comes back -/
def back : List Bool → List Rv → List Sl → List Sl → List Sl
  | true :: fs, .var i :: rs, .bor o :: ss, ρ => back fs rs ss (match ρ[i]? with
    | some (.own _) => ρ.set i (.own o)
    | some (.bor _) => ρ.set i (.bor o)
    | _ => ρ)
  | _ :: fs, _ :: rs, _ :: ss, ρ => back fs rs ss ρ
  | _, _, _, ρ => ρ
def ownSl : Option Sl → Bool
  | some (.own _) | some (.bor _) => true
  | _ => false
def ownThen {α : Type} (j : Nat) (m : M α) : M α := fun ρ => match ownSl ρ[j]? with
  | true => m ρ
  | false => .bad
def noVar : Rv → Bool
  | .var _ => false
  | _ => true
def isBor : Sl → Bool
  | .bor _ => true
  | _ => false
def borAll : List Bool → List Rv → List Sl → Bool
  | true :: fs, .var _ :: rs, s :: ss => isBor s && borAll fs rs ss
  | _ :: fs, _ :: rs, _ :: ss => borAll fs rs ss
  | _, _, _ => true
def callR (C : Cfg) (k : Nat) (rs : List Rv) : M Rv := guard (decide (lent (C.flags k) rs).Nodup) (bnd (argsOf (C.flags k) rs) fun ss ρ =>
  match ((lent (C.flags k) rs).all fun i => ownSl ρ[i]?) && borAll (C.flags k) rs ss with
  | true => match C.R k ss with
    | .ok r ss' => match noVar r && decide (ss'.length = ss.length) with
      | true => .ok r (back (C.flags k) rs ss' ρ)
      | false => .bad
    | .exc c x ss' => match decide (ss'.length = ss.length) with
      | true => .exc c x (back (C.flags k) rs ss' ρ)
      | false => .bad
    | .bad => .bad
  | false => .bad)

structure Ev where
  E : Scope → Expr → M Rv
  T : Scope → Expr → M Bool
  S : Stmt → M Flow

def evArgs (f : Expr → M Rv) : List Expr → M (List Rv)
  | [] => ret []
  | .Starred .. :: _ => bad
  | e :: es => bnd (f e) fun r => bnd (evArgs f es) fun rs => ret (r :: rs)
def evBlk (f : Stmt → M Flow) : List Stmt → M Flow
  | [] => ret .nx
  | s :: ss => bnd (f s) fun fl => match fl with
    | .nx => evBlk f ss
    | .ret r => ret (.ret r)
def rvB (b : Bool) : Rv := .val (.bl b)
def lift1 (f : D → Option Rv) (r : Rv) : M Rv := bnd (look r) fun d => opt (f d)
def lift2 (f : D → D → Option Rv) (r s : Rv) : M Rv := bnd (look r) fun d => bnd (look s) fun e => opt (f d e)
def evBool (f : Expr → M Rv) : BoolOp → List Expr → M Rv
  | _, [] => bad
  | _, [e] => f e
  | .And, e :: es => bnd (f e) fun r => bnd (look r) fun d => bnd (opt (truD d)) fun b => match b with
    | true => evBool f .And es
    | false => ret r
  | .Or, e :: es => bnd (f e) fun r => bnd (look r) fun d => bnd (opt (truD d)) fun b => match b with
    | true => ret r
    | false => evBool f .Or es
def evTests (f : Expr → M Bool) : BoolOp → List Expr → M Bool
  | _, [] => bad
  | _, [e] => f e
  | .And, e :: es => bnd (f e) fun b => match b with
    | true => evTests f .And es
    | false => ret false
  | .Or, e :: es => bnd (f e) fun b => match b with
    | true => ret true
    | false => evTests f .Or es
def partD : Option Expr → (Expr → M Rv) → M (Option Int)
  | none, _ => ret none
  | some e, f => bnd (f e) fun r => match r with
    | .val (.int i) => ret (some i)
    | _ => bad
/-- what a for, a comprehension walks -/
def isTupT : Expr → Bool
  | .Tuple .. => true
  | _ => false
def noStar (es : List Expr) : Bool := es.all fun e => match e with | .Starred .. => false | _ => true
def rgM (r s : Rv) : M (List D) := match r, s with
  | .val (.int n), .val (.int m) => guard (okRg n m) (ret (rgD n m))
  | _, _ => bad
def rgM3 (r s t : Rv) : M (List D) := match r, s, t with
  | .val (.int n), .val (.int m), .val (.int c) => guard (okRg3 n m c) (ret (rg3D n m c))
  | _, _, _ => bad
def zipM : List D → M (List D)
  | [d, e] => bnd (opt (seqD d)) fun ds => bnd (opt (seqD e)) fun es => ret ((ds.zip es).map fun p => D.tup [p.1, p.2])
  | _ => bad
def evIter (C : Cfg) (sc : Scope) (f : Expr → M Rv) (tg : Expr) (it : Expr) : M (List D) := match it with
  | .Call (.Name x _) args [] _ => match globOf C sc x, args with
    | some (.ty "range"), [a] => guard (noStar [a]) (bnd (f a) fun r => rgM (.val (.int 0)) r)
    | some (.ty "range"), [a, b] => guard (noStar [a, b]) (bnd (f a) fun r => bnd (f b) fun s => rgM r s)
    | some (.ty "range"), [a, b, c] => guard (noStar [a, b, c]) (bnd (f a) fun r => bnd (f b) fun s => bnd (f c) fun t => rgM3 r s t)
    | some (.ty "enumerate"), [a] => match isTupT tg with
      | true => guard (noStar [a]) (bnd (f a) fun r => bnd (frz r) fun d => bnd (opt (seqD d)) fun ds => ret (ds.zipIdx.map fun p => D.tup [.int (p.2 : Nat), p.1]))
      | false => bad
    | some (.ty "zip"), [a, b] => match isTupT tg with
      | true => guard (noStar [a, b]) (bnd (f a) fun r => bnd (f b) fun s => bnd (frzs [r, s]) fun ds => zipM ds)
      | false => bad
    | some (.ty _), _ => bad
    | some (.bi _), _ => bad
    | _, _ => bnd (f it) fun r => bnd (frz r) fun d => opt (seqD d)
  | .Set .. => bad
  | .List .. => bad
  | _ => bnd (f it) fun r => bnd (frz r) fun d => opt (seqD d)
def assigns (g : Expr → Sl → M Unit) : List Expr → List Sl → M Unit
  | [], [] => ret ()
  | t :: ts, s :: ss => bnd (g t s) fun _ => assigns g ts ss
  | _, _ => bad

def locOf (N : List Str) (sc : Scope) (x : Str) : Option Nat := match sc.names.lookup x with
  | some .local | some .cell => N.findIdx? (· == x)
  | _ => none
def noSlice : Expr → Bool
  | .Slice .. => false
  | _ => true
/-- a list that a name holds is changed -/
def putVar (j : Nat) (f : List D → Option (List D)) : M Unit := fun ρ => match ρ[j]? with
  | some (.own (.lst ds)) => match f ds with
    | some ds' => .ok () (ρ.set j (.own (.lst ds')))
    | none => .bad
  | some (.bor (.lst ds)) => match f ds with
    | some ds' => .ok () (ρ.set j (.bor (.lst ds')))
    | none => .bad
  | _ => .bad
def setD (k : Int) (d : D) (ds : List D) : Option (List D) := (L2.ixN ds.length k).map fun j => ds.set j d
def tgE (C : Cfg) (sc : Scope) (f : Expr → M Rv) : Nat → Expr → Sl → M Unit
  | 0, _, _ => bad
  | n + 1, .Name x _, s => match locOf C.N sc x with
    | some i => storeAt i s
    | none => bad
  | n + 1, .Tuple ts _ _, s => guard (decide (C.su = false)) (match s with
    | .val d => bnd (opt (seqD d)) fun ds => guard (noStar ts && decide (ds.length = ts.length)) (assigns (tgE C sc f n) ts (ds.map Sl.val))
    | _ => bad)
  | n + 1, .Subscript (.Name x _) i _, s => guard (noSlice i) (match slotOf C.N sc x with
    | some j => match s with
      | .val d => ownThen j (bnd (f i) fun r => match r with
        | .val (.int k) => putVar j (setD k d)
        | _ => bad)
      | _ => bad
    | none => bad)
  | _, _, _ => bad
def toData (s : Sl) : Sl := match s with
  | .own o => .val o.data
  | s => s
def isName : Expr → Bool
  | .Name .. => true
  | _ => false
def toSls : List Rv → M (List Sl)
  | [] => ret []
  | r :: rs => bnd (toSl r) fun s => bnd (toSls rs) fun ss => ret (s :: ss)

/-- the methods that change nothing -/
def mtOk (m : Str) : D → Bool
  | .tup _ => m == ("count" : Str)
  | .lst _ => m == ("count" : Str) || m == ("index" : Str)
  | _ => false
def alike : D → D → Bool
  | .tup _, .tup _ => true
  | .lst _, .lst _ => true
  | _, _ => false
def cntD (x : D) (ds : List D) : Option Rv := chk (flatD x && ds.all flatD) (some (.val (.int ((ds.countP fun y => eqF y x) : Nat))))
def idxD (x : D) (ds : List D) : Option Rv := chk (flatD x && ds.all flatD) ((ds.findIdx? fun y => eqF y x).map fun j => .val (.int (j : Nat)))
def mtD (m : Str) (d : D) (as : List D) : Option Rv := match d, as with
  | .tup ds, [x] => cntD x ds
  | .lst ds, [x] => match m == ("count" : Str) with
    | true => cntD x ds
    | false => idxD x ds
  | _, _ => none
/-- xs.m(..) that changes the list xs: what comes back, and xs then -/
def chD (m : Str) (ds : List D) (as : List D) : Option (D × List D) := match as with
  | [] => match m == ("pop" : Str) with
    | true => (ds[ds.length - 1]?).map fun y => (y, ds.dropLast)
    | false => none
  | [x] => match m == ("append" : Str) with
    | true => chk (decide (ds.length < sizeLine)) (some (.non, ds ++ [x]))
    | false => match m == ("extend" : Str) with
      | true => match x with
        | .lst ys => chk (okLen (ds.length + ys.length)) (some (.non, ds ++ ys))
        | _ => none
      | false => match m == ("pop" : Str) with
        | true => match x with
          | .int i => chk (small i) ((L2.ixN ds.length i).bind fun k => (ds[k]?).map fun y => (y, ds.eraseIdx k))
          | _ => none
        | false => none
  | _ => none
def isCh (m : Str) : Bool := m == ("pop" : Str) || m == ("append" : Str) || m == ("extend" : Str)
def chVar (j : Nat) (m : Str) (as : List D) : M Rv := fun ρ => match ρ[j]? with
  | some (.own (.lst ds)) => match chD m ds as with
    | some (y, ds') => .ok (.val y) (ρ.set j (.own (.lst ds')))
    | none => .bad
  | some (.bor (.lst ds)) => match chD m ds as with
    | some (y, ds') => .ok (.val y) (ρ.set j (.bor (.lst ds')))
    | none => .bad
  | _ => .bad

/-! ### loops -/
def loopF (g : Sl → M Unit) (b : M Flow) : List D → M Flow
  | [] => ret .nx
  | d :: ds => bnd (g (.val d)) fun _ => bnd b fun fl => match fl with
    | .nx => loopF g b ds
    | .ret r => ret (.ret r)
def loopW (t : M Bool) (b : M Flow) : Nat → M Flow
  | 0 => bad
  | n + 1 => bnd t fun c => match c with
    | false => ret .nx
    | true => bnd b fun fl => match fl with
      | .nx => loopW t b n
      | .ret r => ret (.ret r)
def wipeS (vs : List Nat) (ρ : List Sl) : List Sl := vs.foldr (fun i ρ => ρ.set i .emp) ρ
def restS (vs : List Nat) (ρ0 ρ : List Sl) : List Sl := vs.foldr (fun i ρ => ρ.set i (ρ0.getD i .emp)) ρ
def wipeM (vs : List Nat) : M Unit := fun ρ => .ok () (wipeS vs ρ)
def loopC (vs : List Nat) (g : Sl → M Unit) (t : M Bool) (f : M Rv) : List D → M (List D)
  | [] => ret []
  | d :: ds => bnd (wipeM vs) fun _ => bnd (g (.val d)) fun _ => bnd t fun c => match c with
    | false => loopC vs g t f ds
    | true => bnd f fun r => bnd (frz r) fun x => bnd (loopC vs g t f ds) fun xs => ret (x :: xs)
def plainSl : Option Sl → Bool
  | some .emp | some (.val _) => true
  | _ => false
def compM (vs : List Nat) (m : M (List D)) : M Rv := fun ρ => match vs.all fun i => plainSl ρ[i]? with
  | true => match m ρ with
    | .ok xs ρ' => match okLen xs.length with
      | true => .ok (.own (.lst xs)) (restS vs ρ ρ')
      | false => .bad
    | _ => .bad
  | false => .bad
def compT (f : Expr → M Bool) : List Expr → M Bool
  | [] => ret true
  | [c] => f c
  | _ => bad
/-- a comprehension's own names, with their places -/
def ownOf (N : List Str) (sc : Scope) : List (Str × Nat) := sc.names.filterMap fun p => match p.2 with
  | .local | .cell => (N.findIdx? (· == p.1)).map fun i => (p.1, i)
  | _ => none

/-! ### one step of the interpreter: from what it makes of the parts -/
def cmpE (f : Expr → M Rv) (l : Expr) (ops : List CmpOp) (cs : List Expr) : M Rv := match ops, cs with
  | [op], [b] => guard (!behindInMarks op b) (bnd (f l) fun x => bnd (f b) fun y => bnd (look x) fun d => bnd (look y) fun e => bnd (opt (cmpD op d e)) fun c => ret (rvB c))
  | [op, op'], [b, c] => guard (!lastMarks [op, op'] [b, c]) (bnd (f l) fun x => bnd (f b) fun y => bnd (look x) fun d => bnd (look y) fun e => bnd (opt (cmpD op d e)) fun k => match k with
    | true => bnd (f c) fun z => bnd (look y) fun e' => bnd (look z) fun g => bnd (opt (cmpD op' e' g)) fun k' => ret (rvB k')
    | false => ret (rvB false))
  | _, _ => bad
def lookAll (rs : List Rv) (k : List D → M Rv) : M Rv := bnd (looks rs) k
/-- list(range(..)), tuple(range(..)) -/
def rangeArg (C : Cfg) (sc : Scope) (f : Expr → M Rv) (e : Expr) : Option (M (List D)) := match e with
  | .Call (.Name x _) [a] [] _ => match globOf C sc x with
    | some (.ty "range") => some (guard (noStar [a]) (bnd (f a) fun r => rgM (.val (.int 0)) r))
    | _ => none
  | .Call (.Name x _) [a, b] [] _ => match globOf C sc x with
    | some (.ty "range") => some (guard (noStar [a, b]) (bnd (f a) fun r => bnd (f b) fun s => rgM r s))
    | _ => none
  | _ => none
def plainTy (f : Expr → M Rv) (n : String) (args : List Expr) : M Rv := guard (noStar args) (bnd (evArgs f args) fun rs => bnd (looks rs) fun ds => opt (tyD n ds))
def callTy (C : Cfg) (sc : Scope) (f : Expr → M Rv) (n : String) (args : List Expr) : M Rv := match args with
  | [a] => match rangeArg C sc f a with
    | some m => match n == "list" with
      | true => bnd m fun ds => ret (.own (.lst ds))
      | false => match n == "tuple" with
        | true => bnd m fun ds => ret (.val (.tup ds))
        | false => bad
    | none => plainTy f n [a]
  | _ => bad
def callBi (C : Cfg) (sc : Scope) (f : Expr → M Rv) (id : String) (args : List Expr) : M Rv := match id == "isinstance" with
  | true => match args with
    | [a, .Name x _] => match globOf C sc x with
      | some (.ty n) => guard (noStar [a]) (bnd (f a) fun r => bnd (look r) fun d => bnd (opt (isiD d n)) fun b => ret (rvB b))
      | some (.flag b) => guard (noStar [a]) (bnd (f a) fun r => match r with
        | .val (.fn k) => guard (decide (k = exnK)) (ret (rvB b))
        | _ => bad)
      | _ => bad
    | _ => bad
  | false => match args with
    | [] => bad
    | _ => guard (decide (C.su = false) && noStar args) (bnd (evArgs f args) fun rs => bnd (looks rs) fun ds => opt (biD id ds))
def lamSD (N : List Str) (y : Str) (sc scope : Scope) : Bool :=
  decide (scope.kind = .function) && !scope.isCoroutine && !scope.isGenerator && decide (scope.names.lookup y = some .local) && scope.names.all fun z => (!decide (z.2 = .local) || !N.contains z.1) && !decide (z.2 = .cell) && (!decide (z.2 = .free) || decide (sc.names.lookup z.1 = some .cell) || decide (sc.names.lookup z.1 = some .free))
/-- a lambda without parameters, or with one that has a number as default -/
def lamOk (N : List Str) (ps : Arguments) (sc scope : Scope) : Bool := match ps with
  | ⟨[], [], none, [], [], none, []⟩ => LamX.lamSB sc scope
  | ⟨[], [⟨y, none, _⟩], none, [], [], none, [.Constant (.int _) _ _]⟩ => lamSD N y sc scope
  | _ => false
def lamM (h : WordH) (m : M Rv) : M Rv := fun ρ => match m ρ with
  | .ok _ ρ' => .ok (.val h.ok) ρ'
  | .exc c x ρ' => match h.exc c x with
    | some d => .ok (.val d) ρ'
    | none => .bad
  | .bad => .bad
def callNm (C : Cfg) (v : Ev) (sc : Scope) (x : Str) (args : List Expr) : M Rv := match globOf C sc x with
  | some (.fn k) => guard (decide (C.su = false) && (!args.isEmpty && noStar args)) (bnd (evArgs (v.E sc) args) fun rs => callR C k rs)
  | some (.word k) => match args with
    | [.Lambda ps body scope _] => guard ((C.lam && lamOk C.N ps sc scope) && (decide (sc = C.dsc) && decide (scope ≠ C.dsc))) (lamM (C.words k) (v.E scope body))
    | _ => bad
  | some (.bi id) => callBi C sc (v.E sc) id args
  | some (.ty n) => guard (decide (C.su = false)) (callTy C sc (v.E sc) n args)
  | _ => bad
def callMt (C : Cfg) (v : Ev) (sc : Scope) (o : Expr) (m : Str) (args : List Expr) : M Rv := match isCh m with
  | true => match o with
    | .Name x _ => match slotOf C.N sc x with
      | some j => ownThen j (bnd (evArgs (v.E sc) args) fun rs => bnd (frzs rs) fun ds => chVar j m ds)
      | none => bad
    | _ => bad
  | false => guard (!args.isEmpty) (bnd (v.E sc o) fun r => bnd (look r) fun d0 => guard (mtOk m d0) (bnd (evArgs (v.E sc) args) fun rs => bnd (look r) fun d => guard (alike d0 d) (bnd (looks rs) fun ds => opt (mtD m d ds))))
def evTup (f : Expr → M Rv) (es : List Expr) : M Rv := bnd (evArgs f es) fun rs => bnd (frzs rs) fun ds => guard (okLen ds.length) (ret (.val (.tup ds)))
def evLst (f : Expr → M Rv) (es : List Expr) : M Rv := bnd (evArgs f es) fun rs => bnd (frzs rs) fun ds => guard (okLen ds.length) (ret (.own (.lst ds)))
def isSet : Expr → Bool
  | .Set .. => true
  | _ => false
def evComp (C : Cfg) (v : Ev) (sc : Scope) (elt : Expr) (gs : List Comprehension) (scope : Scope) : M Rv := match gs with
  | [⟨tg, it, ifs, a⟩] => guard (decide (a = 0) && (L2.blkC C.N sc scope (ownOf C.N scope) && (decide (scope ≠ C.dsc) && decide (C.su = false)))) (bnd (evIter C sc (v.E sc) tg it) fun ds =>
      compM ((ownOf C.N scope).map (·.2)) (loopC ((ownOf C.N scope).map (·.2)) (tgE C scope (v.E scope) 4 tg) (compT (v.T scope) ifs) (v.E scope elt) ds))
  | _ => bad
def okBase : Expr → Bool
  | .Call .. => false
  | _ => true
def attLine (f : Expr) (pos : Pos) : Bool := match f with
  | .Attribute _ _ apos => apos.endLine == pos.line
  | _ => true
def varM (i : Nat) : M Rv := fun ρ => match ρ[i]? with
  | some (.val d) => .ok (.val d) ρ
  | some (.own _) => .ok (.var i) ρ
  | some (.bor _) => .ok (.var i) ρ
  | _ => .bad
def plainIx : Expr → Bool
  | .Slice .. => false
  | _ => true
def isM1 : Expr → Bool
  | .UnaryOp .USub (.Constant (.int 1) _ _) _ => true
  | _ => false
def revM (lo hi : Option Expr) (st : Expr) (m : M Rv) : M Rv := match lo, hi with
  | none, none => guard (isM1 st) (bnd m fun r => lift1 revD r)
  | _, _ => bad
def stepE (C : Cfg) (v : Ev) (sc : Scope) (e : Expr) : M Rv := match e with
  | .Constant c _ _ => match c with
    | .none => ret (.val .non)
    | .bool b => ret (.val (.bl b))
    | .int i => ret (.val (.int i))
    | .str s => ret (.val (.str s))
    | _ => bad
  | .Name x _ => match slotOf C.N sc x with
    | some i => varM i
    | none => match globOf C sc x with
      | some (.const d) => ret (.val d)
      | some (.fn k) => ret (.val (.fn k))
      | _ => bad
  | .Tuple es _ _ => evTup (v.E sc) es
  | .List es _ => evLst (v.E sc) es
  | .BinOp a op b _ => bnd (v.E sc a) fun x => bnd (v.E sc b) fun y => lift2 (binD op) x y
  | .UnaryOp op a _ => bnd (v.E sc a) fun x => lift1 (unD op) x
  | .BoolOp op vs _ => evBool (v.E sc) op vs
  | .Compare l ops cs _ => cmpE (v.E sc) l ops cs
  | .IfExp t a b _ => bnd (v.T sc t) fun c => match c with
    | true => v.E sc a
    | false => v.E sc b
  | .Subscript a i _ => match i with
    | .Slice lo hi st _ => match st with
      | none => bnd (v.E sc a) fun r => bnd (partD lo (v.E sc)) fun l => bnd (partD hi (v.E sc)) fun h => lift1 (fun d => slD d l h) r
      | some st => revM lo hi st (v.E sc a)
    | i => bnd (v.E sc a) fun r => bnd (v.E sc i) fun s => lift2 (fun d k => (ixD d k).map Rv.val) r s
  | .ListComp elt gs scope _ => evComp C v sc elt gs scope
  | .Call f args kws pos => match kws with
    | [] => match f with
      | .Name x _ => callNm C v sc x args
      | .Attribute o m apos => guard (apos.endLine == pos.line && decide (args.length < 30) && noStar args && okBase o) (callMt C v sc o m args)
      | _ => bad
    | _ => bad
  | .Dict ks vs _ => match ks, vs with
    | [], [] => ret (.val .emp)
    | _, _ => bad
  | _ => bad
def stepT (C : Cfg) (v : Ev) (sc : Scope) (e : Expr) : M Bool := match e with
  | .UnaryOp .Not x _ => bnd (v.T sc x) fun b => ret (!b)
  | .BoolOp op vs _ => evTests (v.T sc) op vs
  | .Compare l ops cs _ => bnd (cmpE (v.E sc) l ops cs) fun r => match r with
    | .val (.bl b) => ret b
    | _ => bad
  | .IfExp .. => bad
  | e => bnd (v.E sc e) fun r => bnd (look r) fun d => opt (truD d)
def parM (g : Expr → Sl → M Unit) (f : Expr → M Rv) (ts es : List Expr) : M Flow := bnd (evArgs f es) fun rs => bnd (toSls rs) fun ss => bnd (assigns g ts ss) fun _ => ret .nx
def named (N : List Str) (sc : Scope) (ts : List Expr) : Bool := ts.all fun t => match t with
  | .Name x _ => (locOf N sc x).isSome
  | _ => true
def assignPar (C : Cfg) (sc : Scope) (f : Expr → M Rv) (ts es : List Expr) : M Flow :=
  guard (decide (C.su = false) && named C.N sc ts) <| guard ((noStar ts && decide (ts.length = es.length)) && (decide (es.length ≤ 1000) && (!es.all (constantsAlone 8) || es.all (foldedForSure 8)))) (parM (tgE C sc f 4) f ts es)
def isComp : Expr → Bool
  | .ListComp .. | .SetComp .. | .DictComp .. => true
  | _ => false
def augD (op : Operator) (a b : D) : Option D := match op, a, b with
  | .Add, .int i, .int j => some (.int (i + j))
  | .Sub, .int i, .int j => some (.int (i - j))
  | _, _, _ => none
def augM (i : Nat) (op : Operator) (me : M Rv) : M Flow := fun ρ => match ρ[i]? with
  | some (.val d) => bnd (bnd me look) (fun d' => bnd (opt (augD op d d')) fun z => bnd (storeAt i (.val z)) fun _ => ret .nx) ρ
  | _ => .bad
def okTgt : Expr → Bool
  | .Name .. | .Tuple .. | .Subscript .. => true
  | _ => false
def raiseM (C : Cfg) (sc : Scope) (f : Expr → M Rv) (x : Str) (args : List Expr) : M Flow := match globOf C sc x with
  | some (.exc false) => match args with
    | [] => fun ρ => .exc x none ρ
    | _ => bad
  | some (.exc true) => match args with
    | [a] => guard (noStar [a]) (bnd (f a) fun r => match r with
      | .val (.int i) => fun ρ => .exc x (some (.int i)) ρ
      | _ => bad)
    | _ => bad
  | _ => bad
def asg1 (C : Cfg) (sc : Scope) (f : Expr → M Rv) (t e : Expr) : M Flow := guard (okTgt t && named C.N sc [t]) (bnd (f e) fun r => bnd (toSl r) fun s => bnd (tgE C sc f 4 t s) fun _ => ret .nx)
def asgM (C : Cfg) (sc : Scope) (f : Expr → M Rv) (t e : Expr) : M Flow := match t with
  | .Tuple ts _ _ => match e with
    | .Tuple es _ _ => assignPar C sc f ts es
    | e => asg1 C sc f t e
  | t => asg1 C sc f t e
def stepS (C : Cfg) (v : Ev) (sc : Scope) (s : Stmt) : M Flow := match s with
  | .Pass _ => ret .nx
  | .Return (some e) _ => bnd (v.E sc e) fun r => ret (.ret r)
  | .Return none _ => ret (.ret (.val .non))
  | .Expr e _ => guard (!isComp e) (bnd (v.E sc e) fun _ => ret .nx)
  | .Assign [t] e _ => asgM C sc (v.E sc) t e
  | .AugAssign (.Name x _) op e _ => match locOf C.N sc x with
    | some i => augM i op (v.E sc e)
    | none => bad
  | .If t a b _ => bnd (v.T sc t) fun c => match c with
    | true => evBlk v.S a
    | false => evBlk v.S b
  | .For tg it body [] _ => guard (decide (C.su = false)) (bnd (evIter C sc (v.E sc) tg it) fun ds => loopF (tgE C sc (v.E sc) 4 tg) (evBlk v.S body) ds)
  | .While t body [] _ => loopW (v.T sc t) (evBlk v.S body) 16777216
  | .Raise (some (.Call (.Name x _) args [] _)) none _ => raiseM C sc (v.E sc) x args
  | _ => bad
def evZ : Ev := ⟨fun _ _ => bad, fun _ _ => bad, fun _ => bad⟩
/-- n steps deep into the trees; sc: the def's own scope -/
def ev (C : Cfg) (sc : Scope) : Nat → Ev
  | 0 => evZ
  | n + 1 => ⟨stepE C (ev C sc n), stepT C (ev C sc n), stepS C ⟨stepE C (ev C sc n), stepT C (ev C sc n), (ev C sc n).S⟩ sc⟩

/-! ### defs -/
/-- a def: how many parameters, the names by slot, its scope, its body -/
structure Df where
  np : Nat
  N : List Str
  sc : Scope
  body : List Stmt
  lam : Bool
structure Prog where
  df : Nat → Option Df
  glob : Str → Option Gb
  flags : Nat → List Bool
  words : Nat → WordH
def slOut : List Sl → List Sl → Option (List Sl)
  | [], _ => some []
  | .bor _ :: as, .bor o :: ρ => (slOut as ρ).map (.bor o :: ·)
  | .val d :: as, _ :: ρ => (slOut as ρ).map (.val d :: ·)
  | _, _ => none
def retOf (fl : Flow) (ρ : List Sl) : Option Rv := match fl with
  | .nx => some (.val .non)
  | .ret (.val d) => some (.val d)
  | .ret (.own o) => some (.own o)
  | .ret (.var i) => match ρ[i]? with
    | some (.val d) => some (.val d)
    | some (.own o) => some (.own o)
    | _ => none
def bodyOut (as : List Sl) (m : Out Flow) : Out Rv := match m with
  | .ok fl ρ => match retOf fl ρ, slOut as ρ with
    | some r, some ss => .ok r ss
    | _, _ => .bad
  | .exc c x ρ => match slOut as ρ with
    | some ss => .exc c x ss
    | none => .bad
  | .bad => .bad
def cfgOf (P : Prog) (R : Nat → List Sl → Out Rv) (d : Df) : Cfg := ⟨d.N, P.glob, R, P.flags, P.words, d.lam, d.sc, false⟩
def depth : Nat := 60
def runDf (P : Prog) (R : Nat → List Sl → Out Rv) (d : Df) (as : List Sl) : Out Rv := match decide (as.length = d.np) with
  | true => bodyOut as (evBlk (ev (cfgOf P R d) d.sc depth).S d.body (as ++ List.replicate (d.N.length - d.np) .emp))
  | false => .bad
/-- calls n deep -/
def lev (P : Prog) : Nat → Nat → List Sl → Out Rv
  | 0, _, _ => .bad
  | n + 1, k, as => match P.df k with
    | some d => runDf P (lev P n) d as
    | none => .bad
end Pyd
end

section
set_option Elab.async false
set_option linter.all false
set_option maxRecDepth 100000
set_option maxHeartbeats 4000000
/-! Pyd, part B: what it is that a heap bears data, a frame's slots; how a state moves on. -/
namespace Pyd
open PySem PySem.Spec L2
open PyProof.Rows hiding St

/-- what does not move: the written part, the tables of code objects, where defs and classes stand -/
structure Sx where
  K : PySem.W.Frag
  T : List (Addr × Str)
  fa : Nat → Addr
  ca : Str → Addr
abbrev Fz := Addr → Prop

def TupAt (K : PySem.W.Frag) (H : Hp) (a : Addr) (vs : List V) : Prop :=
  (∃ ob : Obj, H a = some (.frz ob (.tup vs)) ∧ ob.dict = none) ∨
    ∃ (o : Obj) (its : Array Value) (n : Nat), K.lookup a = some o ∧ o.cls = .type "tuple" ∧ o.dict = none ∧ o.data = .seq its n ∧ its.size ≤ sizeLine ∧ Vals vs its.toList
/-- the script -/
def ScrAt (K : PySem.W.Frag) (F : Fz) (H : Hp) (a : Addr) (vs : List V) : Prop := (∃ ob : Obj, H a = some (.frz ob (.lst vs))) ∨ (F a ∧ H a = some (.lst vs)) ∨
    ∃ (o : Obj) (its : Array Value) (n : Nat), K.lookup a = some o ∧ o.cls = .type "list" ∧ o.dict = none ∧ o.data = .seq its n ∧ its.size ≤ sizeLine ∧ Vals vs its.toList
mutual
def rep (S : Sx) (F : Fz) (H : Hp) : D → V → Prop
  | .non, v => v = .non
  | .bl b, v => v = .bl b
  | .int i, v => v = .int i
  | .str s, v => v = .str s
  | .tup ds, v => ∃ a vs, v = .ref a ∧ TupAt S.K H a vs ∧ reps S F H ds vs
  | .lst ds, v => ∃ a vs, v = .ref a ∧ F a ∧ H a = some (.lst vs) ∧ reps S F H ds vs
  | .fn k, v => v = .ref (S.fa k)
  | .emp, v => ∃ a, v = .ref a ∧ F a ∧ H a = some (.dK [])
  | .scr ns, v => ∃ a, v = .ref a ∧ ScrAt S.K F H a (ns.map V.int)
def reps (S : Sx) (F : Fz) (H : Hp) : List D → List V → Prop
  | [], vs => vs = []
  | d :: ds, vs => ∃ v r, vs = v :: r ∧ rep S F H d v ∧ reps S F H ds r
end
/-- the data as it is now: the outermost list may be one that still changes -/
def top (S : Sx) (F : Fz) (H : Hp) (d : D) (v : V) : Prop := match d with
  | .lst ds => ∃ a vs, v = .ref a ∧ H a = some (.lst vs) ∧ reps S F H ds vs
  | d => rep S F H d v
def obj (S : Sx) (F : Fz) (H : Hp) (o : Ob) (a : Addr) : Prop := match o with
  | .lst ds => ∃ vs, H a = some (.lst vs) ∧ reps S F H ds vs

theorem TupAt.seq {K : PySem.W.Frag} {H : Hp} {a : Addr} {vs : List V} (h : TupAt K H a vs) : SqT K H a vs := by
  rcases h with ⟨ob, h, _⟩ | ⟨o, its, n, h1, h2, _, h3, h4, h5⟩
  · exact .inl (.inr ⟨ob, h⟩)
  · exact .inr ⟨o, its, n, h1, h2, h3, h4, h5⟩
theorem ScrAt.seq {K : PySem.W.Frag} {F : Fz} {H : Hp} {a : Addr} {vs : List V} (h : ScrAt K F H a vs) : SqL K H a vs := by
  rcases h with ⟨ob, h⟩ | ⟨_, h⟩ | ⟨o, its, n, h1, h2, h3, h4, h5, h6⟩
  · exact .inl (.inr ⟨ob, h⟩)
  · exact .inl (.inl h)
  · exact .inr ⟨o, its, n, h1, h2, h3, h4, h5, h6⟩

theorem reps_length {S : Sx} {F : Fz} {H : Hp} : ∀ {ds : List D} {vs : List V}, reps S F H ds vs → ds.length = vs.length
  | [], _, h => by rw [show _ = [] from h]; rfl
  | d :: ds, _, h => by
    obtain ⟨v, r, rfl, _, h2⟩ := h
    rw [List.length_cons, List.length_cons, reps_length h2]
theorem reps_get {S : Sx} {F : Fz} {H : Hp} : ∀ {ds : List D} {vs : List V} {i : Nat} {d : D}, reps S F H ds vs → ds[i]? = some d → ∃ v, vs[i]? = some v ∧ rep S F H d v
  | [], _, _, _, _, e => by simp at e
  | d :: ds, _, i, d', h, e => by
    obtain ⟨v, r, rfl, h1, h2⟩ := h
    cases i with
    | zero =>
      have e' : d = d' := by simpa using e
      subst e'
      exact ⟨v, rfl, h1⟩
    | succ i =>
      obtain ⟨w, e1, e2⟩ := reps_get (i := i) h2 (by simpa using e)
      exact ⟨w, by simpa using e1, e2⟩
theorem reps_getV {S : Sx} {F : Fz} {H : Hp} {ds : List D} {vs : List V} {i : Nat} {v : V} (h : reps S F H ds vs) (e : vs[i]? = some v) : ∃ d, ds[i]? = some d ∧ rep S F H d v := by
  have hl := reps_length h
  have hi : i < ds.length := by rw [hl]; exact (List.getElem?_eq_some_iff.mp e).1
  obtain ⟨w, e1, e2⟩ := reps_get (d := ds[i]) h (List.getElem?_eq_getElem hi)
  rw [e] at e1
  cases e1
  exact ⟨_, List.getElem?_eq_getElem hi, e2⟩
theorem reps_append {S : Sx} {F : Fz} {H : Hp} : ∀ {ds es : List D} {vs us : List V}, reps S F H ds vs → reps S F H es us → reps S F H (ds ++ es) (vs ++ us)
  | [], _, _, _, h, h' => by rw [show _ = [] from h]; exact h'
  | d :: ds, _, _, _, h, h' => by
    obtain ⟨v, r, rfl, h1, h2⟩ := h
    exact ⟨v, r ++ _, rfl, h1, reps_append h2 h'⟩
theorem reps_one {S : Sx} {F : Fz} {H : Hp} {d : D} {v : V} (h : rep S F H d v) : reps S F H [d] [v] := ⟨v, [], rfl, h, rfl⟩
theorem reps_take {S : Sx} {F : Fz} {H : Hp} : ∀ {ds : List D} {vs : List V} (n : Nat), reps S F H ds vs → reps S F H (ds.take n) (vs.take n)
  | _, _, 0, _ => rfl
  | [], _, n + 1, h => by rw [show _ = [] from h]; rfl
  | d :: ds, _, n + 1, h => by
    obtain ⟨v, r, rfl, h1, h2⟩ := h
    exact ⟨v, r.take n, rfl, h1, reps_take n h2⟩
theorem reps_drop {S : Sx} {F : Fz} {H : Hp} : ∀ {ds : List D} {vs : List V} (n : Nat), reps S F H ds vs → reps S F H (ds.drop n) (vs.drop n)
  | _, _, 0, h => h
  | [], _, n + 1, h => by rw [show _ = [] from h]; rfl
  | d :: ds, _, n + 1, h => by
    obtain ⟨v, r, rfl, h1, h2⟩ := h
    exact reps_drop n h2
theorem reps_set {S : Sx} {F : Fz} {H : Hp} {d : D} {v : V} (hd : rep S F H d v) : ∀ {ds : List D} {vs : List V} (j : Nat), reps S F H ds vs → reps S F H (ds.set j d) (vs.set j v)
  | [], _, _, h => by rw [show _ = [] from h]; rfl
  | e :: ds, _, 0, h => by
    obtain ⟨w, r, rfl, _, h2⟩ := h
    exact ⟨v, r, rfl, hd, h2⟩
  | e :: ds, _, j + 1, h => by
    obtain ⟨w, r, rfl, h1, h2⟩ := h
    exact ⟨w, r.set j v, rfl, h1, reps_set hd j h2⟩
theorem reps_erase {S : Sx} {F : Fz} {H : Hp} : ∀ {ds : List D} {vs : List V} (j : Nat), reps S F H ds vs → reps S F H (ds.eraseIdx j) (vs.eraseIdx j)
  | [], _, _, h => by rw [show _ = [] from h]; rfl
  | e :: ds, _, 0, h => by
    obtain ⟨w, r, rfl, _, h2⟩ := h
    exact h2
  | e :: ds, _, j + 1, h => by
    obtain ⟨w, r, rfl, h1, h2⟩ := h
    exact ⟨w, r.eraseIdx j, rfl, h1, reps_erase j h2⟩
theorem reps_dropLast {S : Sx} {F : Fz} {H : Hp} {ds : List D} {vs : List V} (h : reps S F H ds vs) : reps S F H ds.dropLast vs.dropLast := by
  rw [List.dropLast_eq_take, List.dropLast_eq_take, reps_length h]
  exact reps_take _ h
theorem reps_rep {S : Sx} {F : Fz} {H : Hp} {ds : List D} {vs : List V} (h : reps S F H ds vs) : ∀ k : Nat, reps S F H (List.replicate k ds).flatten (List.replicate k vs).flatten
  | 0 => rfl
  | k + 1 => by
    rw [List.replicate_succ, List.replicate_succ, List.flatten_cons, List.flatten_cons]
    exact reps_append h (reps_rep h k)

/-! ### how a heap moves on -/
structure Kp (F : Fz) (H : Hp) (F' : Fz) (H' : Hp) : Prop where
  frz : ∀ a ob u, H a = some (.frz ob u) → H' a = some (.frz ob u)
  fs : ∀ a, F a → F' a
  fk : ∀ a o, F a → H a = some o → H' a = some o
theorem Kp.tup {K : PySem.W.Frag} {F F' : Fz} {H H' : Hp} (k : Kp F H F' H') {a : Addr} {vs : List V} (h : TupAt K H a vs) : TupAt K H' a vs := by
  rcases h with ⟨ob, h, d⟩ | h
  · exact .inl ⟨ob, k.frz _ _ _ h, d⟩
  · exact .inr h
theorem Kp.scr {K : PySem.W.Frag} {F F' : Fz} {H H' : Hp} (k : Kp F H F' H') {a : Addr} {vs : List V} (h : ScrAt K F H a vs) : ScrAt K F' H' a vs := by
  rcases h with ⟨ob, h⟩ | ⟨f, h⟩ | h
  · exact .inl ⟨ob, k.frz _ _ _ h⟩
  · exact .inr (.inl ⟨k.fs _ f, k.fk _ _ f h⟩)
  · exact .inr (.inr h)
mutual
theorem rep_mono {S : Sx} {F F' : Fz} {H H' : Hp} (k : Kp F H F' H') : ∀ (d : D) (v : V), rep S F H d v → rep S F' H' d v
  | .non, _, h => h
  | .bl _, _, h => h
  | .int _, _, h => h
  | .str _, _, h => h
  | .tup ds, _, h => by
    obtain ⟨a, vs, e, h1, h2⟩ := h
    exact ⟨a, vs, e, k.tup h1, reps_mono k ds vs h2⟩
  | .lst ds, _, h => by
    obtain ⟨a, vs, e, h0, h1, h2⟩ := h
    exact ⟨a, vs, e, k.fs _ h0, k.fk _ _ h0 h1, reps_mono k ds vs h2⟩
  | .fn _, _, h => h
  | .emp, _, h => by
    obtain ⟨a, e, h1, h2⟩ := h
    exact ⟨a, e, k.fs _ h1, k.fk _ _ h1 h2⟩
  | .scr _, _, h => by
    obtain ⟨a, e, h1⟩ := h
    exact ⟨a, e, k.scr h1⟩
theorem reps_mono {S : Sx} {F F' : Fz} {H H' : Hp} (k : Kp F H F' H') : ∀ (ds : List D) (vs : List V), reps S F H ds vs → reps S F' H' ds vs
  | [], _, h => h
  | d :: ds, _, h => by
    obtain ⟨v, r, e, h1, h2⟩ := h
    exact ⟨v, r, e, rep_mono k d v h1, reps_mono k ds r h2⟩
end
theorem Kp.refl (F : Fz) (H : Hp) : Kp F H F H := ⟨fun _ _ _ h => h, fun _ h => h, fun _ _ _ h => h⟩
theorem rep_top {S : Sx} {F : Fz} {H : Hp} {d : D} {v : V} (h : rep S F H d v) : top S F H d v := by
  cases d <;> first | exact h | skip
  obtain ⟨a, vs, e, _, h1, h2⟩ := h
  exact ⟨a, vs, e, h1, h2⟩

/-! ### a frame's slots -/
def OwnAt (ρ : List Sl) (i : Nat) : Prop := ∃ o, ρ[i]? = some (.own o) ∨ ρ[i]? = some (.bor o)
def OA (σ : St) (ρ : List Sl) (a : Addr) : Prop := ∃ i, OwnAt ρ i ∧ σ[i]? = some (some (.ref a))
def SlotAt (S : Sx) (F : Fz) (H : Hp) (σ : St) (i : Nat) (s : Sl) : Prop := match s with
  | .emp => True
  | .val d => ∃ v, σ[i]? = some (some v) ∧ rep S F H d v
  | .own o => ∃ a, σ[i]? = some (some (.ref a)) ∧ ¬ F a ∧ obj S F H o a
  | .bor o => ∃ a, σ[i]? = some (some (.ref a)) ∧ ¬ F a ∧ obj S F H o a
structure SRep (S : Sx) (F : Fz) (σ : St) (ρ : List Sl) (H : Hp) : Prop where
  len : σ.length = ρ.length
  all : ∀ i s, ρ[i]? = some s → SlotAt S F H σ i s
  inj : ∀ i j a, OwnAt ρ i → OwnAt ρ j → σ[i]? = some (some (.ref a)) → σ[j]? = some (some (.ref a)) → i = j
  fz : ∀ a, F a → (∃ vs, H a = some (.lst vs)) ∨ H a = some (.dK [])
  tabs : LamX.Tabs S.T H
theorem SRep.own {S : Sx} {F : Fz} {σ : St} {ρ : List Sl} {H : Hp} (R : SRep S F σ ρ H) {i : Nat} (h : OwnAt ρ i) : ∃ a o, σ[i]? = some (some (.ref a)) ∧ ¬ F a ∧ (ρ[i]? = some (.own o) ∨ ρ[i]? = some (.bor o)) ∧ obj S F H o a := by
  obtain ⟨o, h⟩ := h
  rcases h with h | h
  · obtain ⟨a, e, n, q⟩ := R.all i _ h
    exact ⟨a, o, e, n, .inl h, q⟩
  · obtain ⟨a, e, n, q⟩ := R.all i _ h
    exact ⟨a, o, e, n, .inr h, q⟩
theorem obj_lst {S : Sx} {F : Fz} {H : Hp} {o : Ob} {a : Addr} (h : obj S F H o a) : ∃ vs, H a = some (.lst vs) := by
  cases o with
  | lst ds =>
    obtain ⟨vs, e, _⟩ := h
    exact ⟨vs, e⟩
theorem SRep.oa {S : Sx} {F : Fz} {σ : St} {ρ : List Sl} {H : Hp} (R : SRep S F σ ρ H) {a : Addr} (h : OA σ ρ a) : ¬ F a ∧ ∃ vs, H a = some (.lst vs) := by
  obtain ⟨i, ho, e⟩ := h
  obtain ⟨b, o, e1, n, _, q⟩ := R.own ho
  rw [e] at e1
  cases e1
  exact ⟨n, obj_lst q⟩
/-- nothing there but a table, if anything -/
def Nn (H : Hp) (a : Addr) : Prop := ∀ o, H a = some o → ∃ ps, o = .tbl ps
theorem Nn.of {H : Hp} {a : Addr} (h : H a = none) : Nn H a := fun o e => by rw [h] at e; cases e
theorem Nn.no {H : Hp} {a : Addr} {o : HO} (h : Nn H a) (e : H a = some o) (nt : ∀ ps, o ≠ .tbl ps) : False := by
  obtain ⟨ps, z⟩ := h o e
  exact nt ps z
theorem Nn.lst {H : Hp} {a : Addr} {vs : List V} (h : Nn H a) (e : H a = some (.lst vs)) : False := h.no e fun ps z => nomatch z
structure Step (O : Addr → Prop) (F : Fz) (H : Hp) (F' : Fz) (H' : Hp) : Prop where
  keep : ∀ a o, H a = some o → (∀ ps, o ≠ .tbl ps) → ¬ O a → H' a = some o
  fs : ∀ a, F a → F' a
  fn : ∀ a, F' a → F a ∨ Nn H a ∨ O a
  ex : ∀ a, Nn H' a → Nn H a
theorem Step.refl (O : Addr → Prop) (F : Fz) (H : Hp) : Step O F H F H := ⟨fun _ _ h _ _ => h, fun _ h => h, fun _ h => .inl h, fun _ h => h⟩
theorem Step.kp {S : Sx} {F F' : Fz} {σ : St} {ρ : List Sl} {H H' : Hp} (R : SRep S F σ ρ H) (s : Step (OA σ ρ) F H F' H') : Kp F H F' H' where
  frz := fun a ob u e => s.keep a _ e (fun ps z => by cases z) fun o => by
    obtain ⟨_, vs, q⟩ := R.oa o
    rw [e] at q
    cases q
  fs := s.fs
  fk := fun a o f e => s.keep a o e (fun ps z => by
    subst z
    rcases R.fz a f with ⟨vs, q⟩ | q <;> rw [e] at q <;> cases q) fun o => (R.oa o).1 f
/-- from one state of a frame to another -/
structure Post (S : Sx) (F : Fz) (σ : St) (ρ : List Sl) (H : Hp) (F' : Fz) (σ' : St) (ρ' : List Sl) (H' : Hp) : Prop where
  step : Step (OA σ ρ) F H F' H'
  rep : SRep S F' σ' ρ' H'
  oa : ∀ a, OA σ' ρ' a → OA σ ρ a ∨ Nn H a
  bor : ∀ (i : Nat) (o : Ob), ρ[i]? = some (.bor o) → ∃ o', ρ'[i]? = some (.bor o') ∧ σ'[i]? = σ[i]?
theorem Post.refl {S : Sx} {F : Fz} {σ : St} {ρ : List Sl} {H : Hp} (R : SRep S F σ ρ H) : Post S F σ ρ H F σ ρ H := ⟨Step.refl _ _ _, R, fun _ h => .inl h, fun i o h => ⟨o, h, rfl⟩⟩
theorem Post.kp {S : Sx} {F F' : Fz} {σ σ' : St} {ρ ρ' : List Sl} {H H' : Hp} (R : SRep S F σ ρ H) (p : Post S F σ ρ H F' σ' ρ' H') : Kp F H F' H' := Step.kp R p.step
theorem Post.trans {S : Sx} {F F1 F2 : Fz} {σ σ1 σ2 : St} {ρ ρ1 ρ2 : List Sl} {H H1 H2 : Hp} (p : Post S F σ ρ H F1 σ1 ρ1 H1) (q : Post S F1 σ1 ρ1 H1 F2 σ2 ρ2 H2) : Post S F σ ρ H F2 σ2 ρ2 H2 where
  step := {
    keep := fun a o e nt n => q.step.keep a o (p.step.keep a o e nt n) nt fun z => (p.oa a z).elim n fun z' => z'.no e nt
    fs := fun a f => q.step.fs a (p.step.fs a f)
    fn := fun a f => by
      rcases q.step.fn a f with z | z | z
      · exact p.step.fn a z
      · exact .inr (.inl (p.step.ex a z))
      · exact (p.oa a z).elim (fun z => .inr (.inr z)) fun z => .inr (.inl z)
    ex := fun a h => p.step.ex a (q.step.ex a h) }
  rep := q.rep
  oa := fun a h => by
    rcases q.oa a h with z | z
    · exact p.oa a z
    · exact .inr (p.step.ex a z)
  bor := fun i o h => by
    obtain ⟨o1, h1, e1⟩ := p.bor i o h
    obtain ⟨o2, h2, e2⟩ := q.bor i o1 h1
    exact ⟨o2, h2, e2.trans e1⟩
theorem Step.none {O : Addr → Prop} {F F' : Fz} {H H' : Hp} (s : Step O F H F' H') {a : Addr} (h : Nn H' a) : Nn H a := s.ex a h

/-! ### results -/
def RepR (S : Sx) (F : Fz) (σ : St) (ρ : List Sl) (H : Hp) (r : Rv) (v : V) : Prop := match r with
  | .val d => rep S F H d v
  | .own o => ∃ a, v = .ref a ∧ ¬ F a ∧ ¬ OA σ ρ a ∧ obj S F H o a
  | .var i => σ[i]? = some (some v)
def New (H : Hp) (r : Rv) (v : V) : Prop := match r with
  | .own _ => ∀ a, v = .ref a → Nn H a
  | _ => True
theorem obj_mono {S : Sx} {F F' : Fz} {H H' : Hp} (k : Kp F H F' H') {o : Ob} {a : Addr} (h : obj S F H o a) (e : ∀ u, H a = some u → H' a = some u) : obj S F' H' o a := by
  cases o with
  | lst ds =>
    obtain ⟨vs, h1, h2⟩ := h
    exact ⟨vs, e _ h1, reps_mono k ds vs h2⟩
theorem RepR.mono {S : Sx} {F F' : Fz} {σ : St} {ρ ρ' : List Sl} {H H' : Hp} {r : Rv} {v : V} (R : SRep S F σ ρ H) (p : Post S F σ ρ H F' σ ρ' H') (h : RepR S F σ ρ H r v) : RepR S F' σ ρ' H' r v := by
  cases r with
  | val d => exact rep_mono (p.kp R) d v h
  | var i => exact h
  | own o =>
    obtain ⟨a, e, nf, no, q⟩ := h
    obtain ⟨vs, ea⟩ := obj_lst q
    have keep : ∀ u, H a = some u → H' a = some u := fun u e' => p.step.keep a u e' (fun ps z => by rw [ea] at e'; cases e'; cases z) no
    refine ⟨a, e, fun f => ?_, fun z => ?_, obj_mono (p.kp R) q keep⟩
    · rcases p.step.fn a f with z | z | z
      · exact nf z
      · exact z.lst ea
      · exact no z
    · rcases p.oa a z with z | z
      · exact no z
      · exact z.lst ea
theorem New.back {O : Addr → Prop} {F F' : Fz} {H H' : Hp} {r : Rv} {v : V} (s : Step O F H F' H') (h : New H' r v) : New H r v := by
  cases r with
  | val _ => trivial
  | var _ => trivial
  | own o => exact fun a e => s.none (h a e)
theorem peek_top {S : Sx} {F : Fz} {σ : St} {ρ : List Sl} {H : Hp} {r : Rv} {v : V} {d : D} (R : SRep S F σ ρ H) (h : RepR S F σ ρ H r v) (e : peek r ρ = some d) : top S F H d v := by
  have ofObj : ∀ {o : Ob} {a : Addr}, obj S F H o a → top S F H o.data (.ref a) := fun {o a} q => by
    cases o with
    | lst ds =>
      obtain ⟨vs, h1, h2⟩ := q
      exact ⟨a, vs, rfl, h1, h2⟩
  cases r with
  | val d' =>
    have e' : d' = d := Option.some.inj e
    subst e'
    exact rep_top h
  | own o =>
    have e' : o.data = d := Option.some.inj e
    subst e'
    obtain ⟨a, rfl, _, _, q⟩ := h
    exact ofObj q
  | var i =>
    have hv : σ[i]? = some (some v) := h
    have e : (match ρ[i]? with
      | some (.val d) => some d
      | some (.own o) => some o.data
      | some (.bor o) => some o.data
      | _ => none) = some d := e
    cases hs : ρ[i]? with
    | none => rw [hs] at e; cases e
    | some s =>
      rw [hs] at e
      have q := R.all i s hs
      cases s with
      | emp => cases e
      | val d' =>
        have e' : d' = d := Option.some.inj e
        subst e'
        obtain ⟨w, e1, e2⟩ := q
        rw [hv] at e1
        cases e1
        exact rep_top e2
      | own o =>
        have e' : o.data = d := Option.some.inj e
        subst e'
        obtain ⟨a, e1, _, e2⟩ := q
        rw [hv] at e1
        cases e1
        exact ofObj e2
      | bor o =>
        have e' : o.data = d := Option.some.inj e
        subst e'
        obtain ⟨a, e1, _, e2⟩ := q
        rw [hv] at e1
        cases e1
        exact ofObj e2
end Pyd
end

section
set_option Elab.async false
set_option linter.all false
set_option maxRecDepth 100000
set_option maxHeartbeats 4000000
/-! Pyd, part C: readings of the interpreter's ends; operators, comparisons, subscripts by data. -/
namespace Pyd
open PySem PySem.Spec L2
open PyProof.Rows hiding St

/-- an exception as the interpreter tells it -/
def ExcR (S : Sx) (F : Fz) (H : Hp) (c : Str) (x : Option D) (cls : Value) (d : Option Addr) : Prop := cls = .ref (S.ca c) ∧ match x with
  | none => d = none
  | some y => ∃ dd v, d = some dd ∧ H dd = some (.xd [(("most" : Str), v)]) ∧ rep S F H y v
section
variable (S : Sx) (W : WX)
/-- what is wanted of an end of the interpreter -/
def Wg {α : Type} (σ : St) (F : Fz) (ρ : List Sl) (H : Hp) (out : Out α) (G : α → Fz → List Sl → Hp → Prop) : Prop := match out with
  | .ok a ρ' => ∀ F' H', Post S F σ ρ H F' σ ρ' H' → G a F' ρ' H'
  | .exc c x ρ' => ∀ F' H' cls d, Post S F σ ρ H F' σ ρ' H' → ExcR S F' H' c x cls d → W cls d σ H'
  | .bad => False
def GQ (σ : St) (H : Hp) (Q : VK) : Rv → Fz → List Sl → Hp → Prop := fun r F' ρ' H' => ∀ v, RepR S F' σ ρ' H' r v → New H r v → Q v H'
def GB (Q : Bool → Hp → Prop) : Bool → Fz → List Sl → Hp → Prop := fun b _ _ H' => Q b H'
def tE (m : M Rv) : TE := fun σ H Q => ∃ F ρ, SRep S F σ ρ H ∧ Wg S W σ F ρ H (m ρ) (GQ S σ H Q)
def tT (m : M Bool) : TT := fun σ H Q => ∃ F ρ, SRep S F σ ρ H ∧ Wg S W σ F ρ H (m ρ) (GB Q)
end
section
variable {S : Sx} {W : WX} {σ : St} {F : Fz} {ρ : List Sl} {H : Hp} {α β : Type}
theorem Wg.imp {out : Out α} {G G' : α → Fz → List Sl → Hp → Prop} (h : Wg S W σ F ρ H out G) (i : ∀ a F' ρ' H', Post S F σ ρ H F' σ ρ' H' → G a F' ρ' H' → G' a F' ρ' H') : Wg S W σ F ρ H out G' := by
  cases out with
  | ok a ρ' => exact fun F' H' p => i a F' ρ' H' p (h F' H' p)
  | exc c x ρ' => exact h
  | bad => exact h
theorem Wg.bnd {m : M α} {k : α → M β} {G : β → Fz → List Sl → Hp → Prop} (h : Wg S W σ F ρ H (M.bnd m k ρ) G) :
    Wg S W σ F ρ H (m ρ) (fun a F1 ρ1 H1 => Wg S W σ F1 ρ1 H1 (k a ρ1) G) := by
  unfold M.bnd at h
  cases e : m ρ with
  | bad => rw [e] at h; exact h
  | exc c x ρ' => rw [e] at h; exact h
  | ok a ρ1 =>
    rw [e] at h
    intro F1 H1 p1
    have h : Wg S W σ F ρ H (k a ρ1) G := h
    show Wg S W σ F1 ρ1 H1 (k a ρ1) G
    cases e2 : k a ρ1 with
    | bad => rw [e2] at h; exact h
    | exc c x ρ' =>
      rw [e2] at h
      exact fun F' H' cls d p hx => h F' H' cls d (p1.trans p) hx
    | ok b ρ' =>
      rw [e2] at h
      exact fun F' H' p => h F' H' (p1.trans p)
theorem GQ.mid {Q : VK} {F1 : Fz} {ρ1 : List Sl} {H1 : Hp} (p : Post S F σ ρ H F1 σ ρ1 H1) {r : Rv} {F' : Fz} {ρ' : List Sl} {H' : Hp} (h : GQ S σ H Q r F' ρ' H') : GQ S σ H1 Q r F' ρ' H' :=
  fun v rv nv => h v rv (nv.back p.step)
/-- a part is read, what follows stands behind it -/
theorem run_E {m : M Rv} {k : Rv → M β} {G : β → Fz → List Sl → Hp → Prop} {Q : VK} (R : SRep S F σ ρ H) (h : Wg S W σ F ρ H (M.bnd m k ρ) G)
    (i : ∀ r F1 ρ1 H1 v, Post S F σ ρ H F1 σ ρ1 H1 → RepR S F1 σ ρ1 H1 r v → New H r v → Wg S W σ F1 ρ1 H1 (k r ρ1) G → Q v H1) : tE S W m σ H Q :=
  ⟨F, ρ, R, h.bnd.imp fun r F1 ρ1 H1 p w v rv nv => i r F1 ρ1 H1 v p rv nv w⟩
theorem run_T {m : M Bool} {k : Bool → M β} {G : β → Fz → List Sl → Hp → Prop} {Q : Bool → Hp → Prop} (R : SRep S F σ ρ H) (h : Wg S W σ F ρ H (M.bnd m k ρ) G)
    (i : ∀ b F1 ρ1 H1, Post S F σ ρ H F1 σ ρ1 H1 → Wg S W σ F1 ρ1 H1 (k b ρ1) G → Q b H1) : tT S W m σ H Q :=
  ⟨F, ρ, R, h.bnd.imp fun b F1 ρ1 H1 p w => i b F1 ρ1 H1 p w⟩
theorem Wg.now {a : α} {G : α → Fz → List Sl → Hp → Prop} (R : SRep S F σ ρ H) (h : Wg S W σ F ρ H (.ok a ρ) G) : G a F ρ H := h F H (Post.refl R)
theorem Wg.opt {o : Option α} {k : α → M β} {G : β → Fz → List Sl → Hp → Prop} (h : Wg S W σ F ρ H (M.bnd (M.opt o) k ρ) G) : ∃ a, o = some a ∧ Wg S W σ F ρ H (k a ρ) G := by
  cases o with
  | none => exact h.elim
  | some a => exact ⟨a, rfl, h⟩
theorem Wg.look {r : Rv} {k : D → M β} {G : β → Fz → List Sl → Hp → Prop} (h : Wg S W σ F ρ H (M.bnd (Pyd.look r) k ρ) G) : ∃ d, peek r ρ = some d ∧ Wg S W σ F ρ H (k d ρ) G := by
  unfold M.bnd Pyd.look at h
  cases e : peek r ρ with
  | none => rw [e] at h; exact h.elim
  | some d => rw [e] at h; exact ⟨d, rfl, h⟩
theorem Wg.guard {b : Bool} {m : M α} {G : α → Fz → List Sl → Hp → Prop} (h : Wg S W σ F ρ H (M.guard b m ρ) G) : b = true ∧ Wg S W σ F ρ H (m ρ) G := by
  cases b with
  | true => exact ⟨rfl, h⟩
  | false => exact h.elim
end

/-! ### new objects -/
theorem SRep.none_F {S : Sx} {F : Fz} {σ : St} {ρ : List Sl} {H : Hp} (R : SRep S F σ ρ H) {p : Addr} (n : H p = none) : ¬ F p := fun f => by
  rcases R.fz p f with ⟨vs, e⟩ | e <;> rw [n] at e <;> cases e
theorem SRep.none_O {S : Sx} {F : Fz} {σ : St} {ρ : List Sl} {H : Hp} (R : SRep S F σ ρ H) {p : Addr} (n : H p = none) : ¬ OA σ ρ p := fun o => by
  obtain ⟨_, vs, e⟩ := R.oa o
  rw [n] at e
  cases e
theorem SRep.nn_O {S : Sx} {F : Fz} {σ : St} {ρ : List Sl} {H : Hp} (R : SRep S F σ ρ H) {p : Addr} (n : Nn H p) : ¬ OA σ ρ p := fun o => by
  obtain ⟨_, vs, e⟩ := R.oa o
  exact n.lst e
theorem slot_mono {S : Sx} {F F' : Fz} {H H' : Hp} {σ : St} {ρ : List Sl} (k : Kp F H F' H') {i : Nat} {s : Sl} (hs : ρ[i]? = some s) (h : SlotAt S F H σ i s) (nf : ∀ a, OA σ ρ a → ¬ F' a) (ko : ∀ a u, OA σ ρ a → H a = some u → H' a = some u) : SlotAt S F' H' σ i s := by
  cases s with
  | emp => trivial
  | val d =>
    obtain ⟨v, e, q⟩ := h
    exact ⟨v, e, rep_mono k d v q⟩
  | own o =>
    obtain ⟨a, e, _, q⟩ := h
    have oa : OA σ ρ a := ⟨i, ⟨o, .inl hs⟩, e⟩
    exact ⟨a, e, nf a oa, obj_mono k q fun u => ko a u oa⟩
  | bor o =>
    obtain ⟨a, e, _, q⟩ := h
    have oa : OA σ ρ a := ⟨i, ⟨o, .inr hs⟩, e⟩
    exact ⟨a, e, nf a oa, obj_mono k q fun u => ko a u oa⟩
theorem kp_new {F : Fz} {H : Hp} {p : Addr} {o : HO} (n : H p = none) : Kp F H F (upd H p o) :=
  ⟨fun a ob u e => by rw [upd_ne (ne_of_none e n)]; exact e, fun _ f => f, fun a u _ e => by rw [upd_ne (ne_of_none e n)]; exact e⟩
theorem Nn.upd {H : Hp} {a b : Addr} {vs us : List V} (e : H a = some (.lst vs)) (h : Nn (upd H a (.lst us)) b) : Nn H b := by
  by_cases z : b = a
  · subst z
    exact (h.lst upd_same).elim
  · intro o ho
    exact h o (by rw [upd_ne z]; exact ho)
theorem step_new {O : Addr → Prop} {F : Fz} {H : Hp} {p : Addr} {o : HO} (n : H p = none) : Step O F H F (upd H p o) :=
  ⟨fun a u e _ _ => by rw [upd_ne (ne_of_none e n)]; exact e, fun _ f => f, fun _ f => .inl f, fun a z => by
    by_cases e : a = p
    · exact Nn.of (e ▸ n)
    · intro o' h
      exact z o' (by rw [upd_ne e]; exact h)⟩
theorem post_new {S : Sx} {F : Fz} {σ : St} {ρ : List Sl} {H : Hp} {p : Addr} {o : HO} (R : SRep S F σ ρ H) (n : H p = none) : Post S F σ ρ H F σ ρ (upd H p o) := by
  have kp : ∀ b u, H b = some u → upd H p o b = some u := fun b u e => by rw [upd_ne (ne_of_none e n)]; exact e
  refine ⟨step_new n, ⟨R.len, fun i s hs => slot_mono (kp_new n) hs (R.all i s hs) (fun a oa => (R.oa oa).1) fun a u _ e => kp a u e, R.inj, fun a f => ?_, R.tabs.ext kp⟩, fun _ h => .inl h, fun i o h => ⟨o, h, rfl⟩⟩
  rcases R.fz a f with ⟨vs, e⟩ | e
  · exact .inl ⟨vs, kp _ _ e⟩
  · exact .inr (kp _ _ e)
theorem rep_tupNew {S : Sx} {F : Fz} {H : Hp} {p : Addr} {ds : List D} {vs : List V} {ob : Obj} (n : H p = none) (h : reps S F H ds vs) (hd : ob.dict = none) : rep S F (upd H p (.frz ob (.tup vs))) (.tup ds) (.ref p) :=
  ⟨p, vs, rfl, .inl ⟨ob, upd_same, hd⟩, reps_mono (kp_new n) ds vs h⟩
theorem own_lstNew {S : Sx} {F : Fz} {σ : St} {ρ : List Sl} {H : Hp} {p : Addr} {ds : List D} {vs : List V} (R : SRep S F σ ρ H) (n : H p = none) (h : reps S F H ds vs) : RepR S F σ ρ (upd H p (.lst vs)) (.own (.lst ds)) (.ref p) :=
  ⟨p, rfl, R.none_F n, R.none_O n, vs, upd_same, reps_mono (kp_new n) ds vs h⟩
theorem New.own {H : Hp} {o : Ob} {p : Addr} (n : H p = none) : New H (.own o) (.ref p) := fun a e => by
  cases e
  exact Nn.of n

/-! ### tuples that are known to the object -/
section
variable {X : Cx} {pins : List (Addr × Obj)} {σ : St} {H : Hp} {s : Shared}
abbrev tupOb (us : List Value) : Obj := { cls := .type "tuple", data := .seq us.toArray }
theorem lay_tup {h' : Heap} {t' : Nat} {us : List Value} {xs : List V} (I : Inv X pins σ H s) (kh : ∀ b o, s.heap.get? b = some o → h'.get? b = some o) (hp : s.heap.objs.size ≤ h'.objs.size) (r : Vals xs us) (z : xs.length ≤ sizeLine) :
    Inv X pins σ (upd H h'.objs.size (.frz (tupOb us) (.tup xs))) { s with heap := h'.push (tupOb us), toks := t' } :=
  I.laid (fun b o e => Heap.get?_push_of_some _ (kh b o e)) hp ⟨Heap.get?_push_size _ rfl, z, us, r, IsTup.new _ _⟩
/-- (e, ..) -/
def tTupZ (t : TA) : TE := fun σ H Q => t σ H fun xs H1 => xs.length ≤ sizeLine ∧ ∀ p ob, H1 p = none → ob.dict = Option.none → Q (.ref p) (upd H1 p (.frz ob (.tup xs)))
theorem pe_tupZ {es : List Expr} {t : TA} {pos : Pos} {x1 : Nat} (h : PA X es t) : PE X (.Tuple es x1 pos) (tTupZ t) :=
  ⟨fun pins s σ H Q I hq => wpAny_Tuple_spliced (thn (h.run pos pins s σ H _ I hq) fun us s1 ⟨xs, H1, I1, r, z, q⟩ =>
    ⟨by rw [← r.length]; exact z, .ref s1.heap.objs.size, _, lay_tup (t' := s1.toks) I1 (fun _ _ e => e) (Nat.le_refl _) r z, rfl, q _ _ (I1.hok.fresh (Nat.le_refl _)) rfl⟩)⟩
def rCatZ (K : PySem.W.Frag) : R2 := fun x y H Q => ∃ a b xs ys, x = .ref a ∧ y = .ref b ∧ SqT K H a xs ∧ SqT K H b ys ∧ xs.length + ys.length ≤ sizeLine ∧
  (xs = [] → Q (.ref b) H) ∧ (xs ≠ [] → ys = [] → Q (.ref a) H) ∧ (xs ≠ [] → ys ≠ [] → ∀ p ob, H p = none → ob.dict = Option.none → Q (.ref p) (upd H p (.frz ob (.tup (xs ++ ys)))))
theorem op_catZ : OpR X (binaryOp .Add) (rCatZ X.K) := by
  intro pins s σ H x y v u Q I rx ry h
  obtain ⟨a, b, xs, ys, rfl, rfl, ha, hb, hz, q0, q1, q2⟩ := h
  cases rx
  cases ry
  obtain ⟨its, r1, p1, _⟩ := I.tuple ha
  obtain ⟨its2, r2, p2, _⟩ := I.tuple hb
  by_cases hx : xs = []
  · subst hx
    cases r1
    exact cat_tup0 p1 p2 ⟨.ref b, H, I, rfl, q0 rfl⟩
  · have hn : its ≠ [] := fun e => hx ((Vals.nil_iff r1).mp e)
    have len : its.length + its2.length ≤ sizeLine := by rw [← r1.length, ← r2.length]; exact hz
    refine HT.cat_tup p1 p2 hn (fun e => ?_) (fun e => ?_) len
    · exact ⟨.ref a, H, I, rfl, q1 hx ((Vals.nil_iff r2).mp e)⟩
    · exact ⟨.ref s.heap.objs.size, _, lay_tup (t' := s.toks) I (fun _ _ e => e) (Nat.le_refl _) (r1.append r2) (by rw [List.length_append]; exact hz), rfl, q2 hx (fun z => e ((Vals.nil_iff r2).mpr z)) _ _ I.fresh rfl⟩
def rSlZ (K : PySem.W.Frag) : V → Option Int → Option Int → Hp → VK → Prop := fun x lo hi H Q => ∃ a xs, x = .ref a ∧ SqT K H a xs ∧
  (HT.sIx xs.length 0 lo = 0 ∧ HT.sIx xs.length xs.length hi = xs.length → Q (.ref a) H) ∧
    (¬ (HT.sIx xs.length 0 lo = 0 ∧ HT.sIx xs.length xs.length hi = xs.length) → ∀ p ob, H p = none → ob.dict = Option.none → Q (.ref p) (upd H p (.frz ob (.tup (cutV xs lo hi)))))
theorem sl_tupZ : SlR X (rSlZ X.K) := by
  intro pins s σ H x v vl vu lo hi sl Q I rx hs pl pu h
  obtain ⟨a, xs, rfl, hx, q1, q2⟩ := h
  cases rx
  obtain ⟨its, r, ht, hz⟩ := I.tuple hx
  have hl : its.length = xs.length := r.length.symm
  have hls : its.toArray.size = its.length := List.size_toArray
  refine ⟨"tuple", _, PyProof.Rows.slot_tuple_getitem.lookup, ht.typeIs, ?_⟩
  by_cases hw : HT.sIx xs.length 0 lo = 0 ∧ HT.sIx xs.length xs.length hi = xs.length
  · exact getItem_tuple_whole ht hs pl pu (by rw [hls, hl]; exact hw) ⟨.ref a, H, I, rfl, q1 hw⟩
  · refine HT.getItem_tuple_cut ht hs pl pu (by rw [hls, hl]; exact hw) ?_ (by rw [hls, hl]; exact hz)
    have rc : Vals (cutV xs lo hi) ((its.drop (HT.sIx its.length 0 lo)).take (HT.sIx its.length its.length hi - HT.sIx its.length 0 lo)) := by
      unfold cutV
      rw [hl]
      exact (r.drop _).take _
    rw [hls]
    exact ⟨.ref s.heap.objs.size, _, lay_tup (t' := s.toks) I (fun _ _ e => e) (Nat.le_refl _) rc (Nat.le_trans (cutV_length xs lo hi) hz), rfl, q2 hw _ _ I.fresh rfl⟩
/-! xs[::-1] -/
theorem sliceApplied_rev {prog : Program} {w : World} {A : Around} {E : Value → Shared → Prop} {s : Shared} {sl : Addr} {vs : Value} {n : Nat} {Q : Int × Int × Nat → Shared → Prop} (hs : s.heap.IsSliceOf sl .none .none vs) (ps : IsPart vs (some (-1)))
    (h : Q ((n : Int) - 1, -1, n) s) : wpAny (model prog w) A (Builtin.Slice.sliceApplied (.ref sl) (pure (n : Int))) Q E s := by
  obtain ⟨os, hos, hcs, hds⟩ := id hs
  unfold Builtin.Slice.sliceApplied Builtin.Slice.sliceFields
  refine wpAny_bind (wpAny_bind (wpAny_field hos hds (x := .none) rfl (wpAny_bind (wpAny_field hos hds (x := .none) rfl (wpAny_bind (wpAny_field hos hds (x := vs) rfl (wpAny_pure ?_)))))))
  refine wpAny_bind (HT.slicePart_ ps ?_)
  show wpAny _ _ (if ((-1 : Int) == 0) = true then _ else _) _ _ s
  rw [if_neg (by decide)]
  refine wpAny_bind (HT.slicePart_ .none (wpAny_bind (HT.slicePart_ .none (wpAny_bind (wpAny_pure ?_)))))
  have e : Builtin.Slice.slicePlaces ((n : Int) - 1) (-1) (-1) = n := by
    unfold Builtin.Slice.slicePlaces
    rw [if_neg (by decide)]
    by_cases h0 : (n : Int) - 1 > -1
    · rw [if_pos h0, show (-(-1) : Int) = 1 by decide, Int.ediv_one]
      omega
    · rw [if_neg h0]
      omega
  show wpAny _ _ (pure ((n : Int) - 1, (-1 : Int), Builtin.Slice.slicePlaces ((n : Int) - 1) (-1) (-1))) _ _ s
  rw [e]
  exact wpAny_pure h
theorem fm_congr {α β : Type} {f g : α → Option β} : ∀ {l : List α}, (∀ x ∈ l, f x = g x) → l.filterMap f = l.filterMap g
  | [], _ => rfl
  | x :: l, h => by
    rw [List.filterMap_cons, List.filterMap_cons, h x List.mem_cons_self, fm_congr fun y hy => h y (List.mem_cons_of_mem _ hy)]
theorem rev_pick (xs : List Value) : ((List.range xs.length).filterMap fun (k : Nat) => xs.toArray[((xs.length : Int) - 1 + (k : Int) * (-1)).toNat]?) = xs.reverse := by
  have e : ∀ k ∈ List.range xs.length, xs.toArray[((xs.length : Int) - 1 + (k : Int) * (-1)).toNat]? = xs.reverse[k]? := fun k hk => by
    have := List.mem_range.mp hk
    rw [List.getElem?_reverse this, List.getElem?_toArray, show ((xs.length : Int) - 1 + (k : Int) * (-1)).toNat = xs.length - 1 - k by omega]
  rw [fm_congr e]
  have := PySem.W.krv_all xs.reverse.toArray
  rw [List.size_toArray, List.length_reverse] at this
  simpa using this
theorem getItem_tuple_rev {prog : Program} {w : World} {A : Around} {E : Value → Shared → Prop} {s : Shared} {t sl : Addr} {its : List Value} {vs : Value} {Q : Value → Shared → Prop} (ht : IsTup s.heap t its.toArray) (hs : s.heap.IsSliceOf sl .none .none vs) (ps : IsPart vs (some (-1)))
    (h : Q (.ref s.heap.objs.size) { s with heap := s.heap.push { cls := .type "tuple", data := .seq its.reverse.toArray } })
    (hsz : its.length ≤ sizeLine) : wpAny (model prog w) A (getItem (.ref t) (.ref sl)) Q E s := by
  have htake : sizeOk (.seq its.reverse.toArray) := by
    show its.reverse.toArray.size ≤ sizeLine
    rw [List.size_toArray, List.length_reverse]
    exact hsz
  obtain ⟨os, hos, hcs, hds⟩ := id hs
  have hTs : s.TypeIs (.ref sl) "slice" := ⟨os, hos, hcs⟩
  unfold getItem
  try with_reducible refine wpAny_holding ?_
  first | refine wpAny_bind (wpAny_pure ?_) | skip
  refine wpAny_bind (wpAny_sequenceKey ht.typeIs (by decide) ?_)
  refine wpAny_bind (wpAny_callSpecial?_slot (name := Str.ofString "__getitem__") ht.typeIs PyProof.Rows.slot_tuple_getitem
    (wpAny_call_entry PyProof.Rows.slot_tuple_getitem ht.typeIs entry_tuple_getitem ?_ (args_tuple_getitem _ _)))
  show wpAny _ _ (Builtin.Tuple.tupleItemsOf (.ref t) >>= _) _ _ s
  refine wpAny_bind (tupleItemsOf_ ht ?_)
  refine wpAny_bind (wpAny_typeOf hTs ?_)
  rw [if_pos (by decide)]
  have hls : its.toArray.size = its.length := List.size_toArray
  rw [hls]
  refine wpAny_bind (sliceApplied_rev hs ps ?_)
  have hno : ¬ ((((its.length : Int) - 1) == 0 && (-1 : Int) == 1 && its.length == its.length) = true) := by simp
  show wpAny _ _ (if ((((its.length : Int) - 1) == 0 && (-1 : Int) == 1 && its.length == its.length) = true) then _ else _) _ _ s
  rw [if_neg hno, rev_pick]
  first
    | exact wpAny_bind (m := Builtin.Tuple.tupleExact _) (wpAny_newObj_type (wpAny_pure ⟨_, rfl, wpAny_pure h⟩) htake)
    | exact wpAny_bind (m := Builtin.Tuple.tupleExact _) (wpAny_newObj_type (wpAny_bind (wpAny_pure (wpAny_pure ⟨_, rfl, wpAny_pure h⟩))) htake)
    | exact wpAny_bind (wpAny_bind (m := Builtin.Tuple.tupleExact _) (wpAny_newObj_type (wpAny_pure (wpAny_pure ⟨_, rfl, wpAny_pure h⟩)) htake))
    | exact wpAny_bind (wpAny_bind (m := Builtin.Tuple.tupleExact _) (wpAny_newObj_type (wpAny_pure ⟨_, rfl, wpAny_pure h⟩) htake))
def tRevZ (K : PySem.W.Frag) (te : TE) : TE := fun σ H Q => te σ H fun x H1 => ∃ a xs, x = .ref a ∧ ((SqL K H1 a xs ∧ ∀ p, H1 p = none → Q (.ref p) (upd H1 p (.lst xs.reverse))) ∨
  (SqT K H1 a xs ∧ ∀ p ob, H1 p = none → ob.dict = Option.none → Q (.ref p) (upd H1 p (.frz ob (.tup xs.reverse)))))
theorem pe_revZ {X : Cx} {e : Expr} {te : TE} {k : Nat} {p1 p2 p3 pos : Pos} (he : PE X e te) : PE X (.Subscript e (.Slice none none (some (.UnaryOp .USub (.Constant (.int 1) k p1) p2)) p3) pos) (tRevZ X.K te) := by
  refine ⟨fun pins s σ H Q I h => ?_⟩
  refine Subscript_ (thn (he.run pins s σ H _ I h) fun v s1 ⟨x, H1, I1, r1, q1⟩ => ?_)
  obtain ⟨a, xs, ex, hx⟩ := q1
  subst ex
  cases r1
  have hst : PO X (some (.UnaryOp .USub (.Constant (.int 1) k p1) p2)) (tPart (tUn (rU fun i => .int (-i)) (tC (.int 1)))) := po_some (pe_un un_neg pe_int)
  refine wpAny_Slice (thn (po_none.run pins s1 σ H1 (fun o H2 => o = none ∧ H2 = H1) I1 ⟨rfl, rfl⟩) fun vl s2 ⟨l, H2, I2, pl, el, e2⟩ => ?_)
  subst el e2
  refine thn (po_none.run pins s2 σ H2 (fun o H3 => o = none ∧ H3 = H2) I2 ⟨rfl, rfl⟩) fun vu s3 ⟨u, H3, I3, pu, eu, e3⟩ => ?_
  subst eu e3
  refine thn (hst.run pins s3 σ H3 (fun o H4 => o = some (-1) ∧ H4 = H3) I3 ⟨1, rfl, -1, rfl, rfl, rfl⟩) fun vs s4 ⟨o, H4, I4, ps, eo, e4⟩ => ?_
  subst eo e4
  have I5 : Inv X pins σ H4 { s4 with heap := s4.heap.push { cls := .type "slice", data := .fields #[vl, vu, vs] } } := I4.kept (t' := s4.toks) fun b ob q => Heap.get?_push_of_some _ q
  show wpAny (model X.prog X.w) X.A (subscriptTail e (.Slice none none (some (.UnaryOp .USub (.Constant (.int 1) k p1) p2)) p3) (.ref a) (.ref s4.heap.objs.size)) (EP X pins σ Q) X.xe { s4 with heap := s4.heap.push { cls := .type "slice", data := .fields #[vl, vu, vs] } }
  rcases hx with ⟨hx, q⟩ | ⟨hx, q⟩
  · obtain ⟨its, r, ht, hz⟩ := I5.list hx
    have hlen := r.length
    refine tail_any (ops := [.ref a, .ref s4.heap.objs.size]) ht.isList.typeIs (PySem.slot_list_getitem.lookup) ?_ (by with_unfolding_all rfl)
    refine wpAny_getItem_list_slice ht.isList (Heap.IsSliceOf.new _ vl vu vs) pl pu ps (by decide) ?_ (by rw [List.size_toArray]; omega)
    rw [PySem.W.krv_pick]
    refine ⟨.ref _, _, I5.laid (t' := s4.toks) (o := .lst xs.reverse) (fun b ob q => Heap.get?_push_of_some _ q) (Nat.le_refl _) ?_, rfl, q _ (I5.hok.fresh (Nat.le_refl _))⟩
    exact ⟨by rw [List.length_reverse]; exact hz, _, 0, r.reverse, Heap.get?_push_size _ rfl⟩
  · obtain ⟨its, r, ht, hz⟩ := I5.tuple hx
    have hlen := r.length
    cases pl
    cases pu
    refine tail_any (ops := [.ref a, .ref s4.heap.objs.size]) ht.typeIs (PyProof.Rows.slot_tuple_getitem.lookup) ?_ (by with_unfolding_all rfl)
    refine getItem_tuple_rev ht (Heap.IsSliceOf.new _ .none .none vs) ps ?_ (by omega)
    exact ⟨.ref _, _, lay_tup (t' := s4.toks) I5 (fun _ _ e => e) (Nat.le_refl _) r.reverse (by rw [List.length_reverse]; exact hz), rfl, q _ _ I5.fresh rfl⟩
def rToTup (K : PySem.W.Frag) : List V → Hp → VK → Prop := fun xs H Q => ∃ p ys, xs = [.ref p] ∧
  ((SqL K H p ys ∧ ∀ l ob, H l = none → ob.dict = Option.none → Q (.ref l) (upd H l (.frz ob (.tup ys)))) ∨ (SqT K H p ys ∧ Q (.ref p) H))
theorem call_tupZ : CallR X (.type "tuple") (rToTup X.K) := by
  intro pins s σ H xs us Q I r h
  obtain ⟨p, ys, rfl, h⟩ := h
  obtain ⟨u, rfl, rx⟩ := vals1 r
  cases rx
  rcases h with ⟨hq, q⟩ | ⟨hq, q⟩
  · obtain ⟨its, r', pl, hz⟩ := I.list hq
    refine call_tuple_list pl.isList (fun h' kp => ?_) (by rw [List.size_toArray, ← r'.length]; exact hz)
    have I1 : Inv X pins σ H { s with heap := h' } := I.kept (t' := s.toks) kp
    exact ⟨.ref h'.objs.size, _, lay_tup (s := { s with heap := h' }) (t' := s.toks) I1 (fun _ _ e => e) (Nat.le_refl _) r' hz, rfl, q _ _ (I1.hok.fresh (Nat.le_refl _)) rfl⟩
  · obtain ⟨its, r', pl, hz⟩ := I.tuple hq
    exact call_tuple_same pl ⟨.ref p, H, I, rfl, q⟩
end
end Pyd
end

section
set_option Elab.async false
set_option linter.all false
set_option maxRecDepth 100000
set_option maxHeartbeats 4000000
/-! Pyd, part D: operators, comparisons, subscripts, built-ins by data. -/
namespace Pyd
open PySem PySem.Spec L2
open PyProof.Rows hiding St
section
variable {S : Sx} {W : WX} {σ : St} {F : Fz} {ρ : List Sl} {H : Hp}
theorem lift2_inv {α : Type} {f : D → D → Option Rv} {r s : Rv} {G : Rv → Fz → List Sl → Hp → Prop} (h : Wg S W σ F ρ H (lift2 f r s ρ) G) : ∃ d e z, peek r ρ = some d ∧ peek s ρ = some e ∧ f d e = some z ∧ Wg S W σ F ρ H (.ok z ρ) G := by
  obtain ⟨d, e1, h⟩ := Wg.look h
  obtain ⟨e, e2, h⟩ := Wg.look h
  cases hf : f d e with
  | none => rw [hf] at h; exact h.elim
  | some z => rw [hf] at h; exact ⟨d, e, z, e1, e2, hf, h⟩
theorem lift1_inv {f : D → Option Rv} {r : Rv} {G : Rv → Fz → List Sl → Hp → Prop} (h : Wg S W σ F ρ H (lift1 f r ρ) G) : ∃ d z, peek r ρ = some d ∧ f d = some z ∧ Wg S W σ F ρ H (.ok z ρ) G := by
  obtain ⟨d, e1, h⟩ := Wg.look h
  cases hf : f d with
  | none => rw [hf] at h; exact h.elim
  | some z => rw [hf] at h; exact ⟨d, z, e1, hf, h⟩
theorem chk_inv {α : Type} {b : Bool} {o : Option α} {z : α} (h : chk b o = some z) : b = true ∧ o = some z := by
  cases b with
  | true => exact ⟨rfl, h⟩
  | false => cases h
theorem okLen_le {n : Nat} (h : okLen n = true) : n ≤ sizeLine := of_decide_eq_true h
theorem small_in {i : Int} (h : small i = true) : -(2 ^ 62) ≤ i ∧ i < 2 ^ 62 := by
  unfold small at h
  rw [Bool.and_eq_true] at h
  exact ⟨of_decide_eq_true h.1, of_decide_eq_true h.2⟩
/-- a value that is handed on -/
theorem put_val {d : D} {v : V} {Q : VK} (R : SRep S F σ ρ H) (w : Wg S W σ F ρ H (.ok (.val d) ρ) (GQ S σ H Q)) (h : rep S F H d v) : Q v H := Wg.now R w v h trivial
theorem put_tup {ds : List D} {vs : List V} {Q : VK} {p : Addr} {ob : Obj} (R : SRep S F σ ρ H) (w : Wg S W σ F ρ H (.ok (.val (.tup ds)) ρ) (GQ S σ H Q)) (h : reps S F H ds vs) (n : H p = none) (hd : ob.dict = Option.none) : Q (.ref p) (upd H p (.frz ob (.tup vs))) :=
  w F _ (post_new R n) (.ref p) (rep_tupNew n h hd) trivial
theorem put_lst {ds : List D} {vs : List V} {Q : VK} {p : Addr} (R : SRep S F σ ρ H) (w : Wg S W σ F ρ H (.ok (.own (.lst ds)) ρ) (GQ S σ H Q)) (h : reps S F H ds vs) (n : H p = none) : Q (.ref p) (upd H p (.lst vs)) :=
  w F _ (post_new R n) (.ref p) (own_lstNew R n h) (New.own n)
end
def rBin (S : Sx) (W : WX) (f : D → D → Option Rv) : R2 := fun x y H Q => ∃ F σ ρ r s, SRep S F σ ρ H ∧ RepR S F σ ρ H r x ∧ RepR S F σ ρ H s y ∧ Wg S W σ F ρ H (lift2 f r s ρ) (GQ S σ H Q)
section
variable {S : Sx} {W : WX} {X : Cx}
theorem bits_lt {i : Int} (h : i.natAbs < 2 ^ 60) : Builtin.Int.intBits i ≤ 64 := by
  unfold Builtin.Int.intBits
  have h2 := PySem.Flt.log2_lt_of (by decide : 0 < 60) h
  split <;> omega
theorem log_mul {i j : Int} (h : okMul i j = true) : IntMulOk i j := by
  unfold okMul at h
  rw [Bool.or_eq_true, Bool.or_eq_true] at h
  rcases h with h | h | h
  · exact IntMulOk.of_left (bits_lt (of_decide_eq_true h))
  · exact IntMulOk.of_right (bits_lt (of_decide_eq_true h))
  · exact CMulW.ok (of_decide_eq_true h : i.natAbs.log2 + j.natAbs.log2 < 1000000)
theorem op_mulX {X : Cx} : OpR X (binaryOp .Mult) (rI IntMulOk fun i j => .int (i * j)) := opI fun _ _ _ _ _ _ _ hc q => mul_int q hc
theorem log_div {i j : Int} (h : okDiv j = true) : CDivW i j := by
  unfold okDiv at h
  rw [Bool.and_eq_true] at h
  exact ⟨of_decide_eq_true h.1, of_decide_eq_true h.2⟩
theorem len_rep {α : Type} (xs : List α) : ∀ k : Nat, (List.replicate k xs).flatten.length = xs.length * k
  | 0 => by simp
  | k + 1 => by
    rw [List.replicate_succ, List.flatten_cons, List.length_append, len_rep xs k, Nat.mul_succ, Nat.add_comm]
/-- t * k of a tuple that is known to the object -/
def rRepZ (K : PySem.W.Frag) : R2 := fun x y H Q => ∃ l k xs, x = .ref l ∧ y = .int k ∧ SqT K H l xs ∧ xs ≠ [] ∧ 2 ≤ k ∧ k ≤ 1000 ∧ xs.length ≤ 1000 ∧ ∀ p ob, H p = none → ob.dict = Option.none → Q (.ref p) (upd H p (.frz ob (.tup (List.replicate k.toNat xs).flatten)))
theorem op_repZ : OpR X (binaryOp .Mult) (rRepZ X.K) := by
  intro pins s σ H x y v u Q I rx ry h
  obtain ⟨l, k, xs, rfl, rfl, hT, hne, h1, h2, hz, q⟩ := h
  cases rx
  obtain ⟨t, rfl⟩ := ry
  obtain ⟨its, r, ⟨⟨cls, dd, data, sl⟩, ho, hc, n, hd⟩, hs⟩ := I.tuple hT
  simp only at hc hd
  subst hc hd
  have lenI : its.length = xs.length := r.length.symm
  have sizI : its.toArray.size = xs.length := by rw [List.size_toArray, lenI]
  have pos : 0 < xs.length := by
    cases xs with
    | nil => exact absurd rfl hne
    | cons a b => exact Nat.succ_pos _
  have emp : its.toArray.isEmpty = false := by
    rw [Array.isEmpty, decide_eq_false_iff_not, sizI]
    omega
  have prod : ((its.toArray.size : Nat) : Int) * k ≤ 1000000 := by
    rw [sizI]
    have : ((xs.length : Nat) : Int) * k ≤ 1000 * k := Int.mul_le_mul_of_nonneg_right (by omega) (by omega)
    omega
  have flat : xs.length * k.toNat ≤ 1000 * 1000 := Nat.mul_le_mul hz (by omega)
  have z1 : (List.replicate k.toNat xs).flatten.length ≤ sizeLine := by
    rw [len_rep, sizeLine_eq]
    omega
  have z2 : (List.replicate k.toNat its).flatten.length ≤ sizeLine := by
    rw [len_rep, lenI, sizeLine_eq]
    omega
  have k0 : (decide (k < -(2 ^ 63)) || decide (k ≥ 2 ^ 63)) = false := by
    rw [Bool.or_eq_false_iff]
    exact ⟨decide_eq_false (by omega), decide_eq_false (by omega)⟩
  have k1 : (its.toArray.isEmpty || k == 1) = false := by
    rw [emp, Bool.false_or]
    exact beq_eq_false_iff_ne.mpr (by omega)
  have k2 : (decide (k ≤ 0) || its.toArray.isEmpty) = false := by
    rw [emp, Bool.or_false]
    exact decide_eq_false (by omega)
  have k4 : Builtin.Tuple.tupleTooMany (((its.toArray.size : Nat) : Int) * k) = false := by
    unfold Builtin.Tuple.tupleTooMany
    rw [sizeLine_eq]
    exact decide_eq_false (by omega)
  refine wpAny_binaryOp_repeat_ref (T := "tuple") (U := "int") (by decide) ⟨_, ho, rfl⟩ (fun s' => typeIs_int s' k t) noFill_tuple_mul F.fills_int_mul F.slot_int_rmul repeat_tuple F.slot_int_index.lookup
    (call_meets F.slot_int_rmul (typeIs_int s k t) F.entry_int_rmul (F.args_int_rmul_2 _ _) (int_rmul_tuple k t l its.toArray n dd sl) ⟨ho, ?_⟩)
  refine ⟨rfl, ⟨_, ho, rfl⟩, call_meets F.slot_tuple_mul ⟨_, ho, rfl⟩ F.entry_tuple_mul (F.args_tuple_mul_2 _ _) (tuple_mulW l its.toArray n dd sl k t k0 k1 k2 (by omega) k4 (by rw [size_rep, List.size_toArray]; exact z2)) ⟨ho, ?_⟩⟩
  rw [size_rep]
  exact ⟨.ref s.heap.objs.size, _, lay_tup (t' := s.toks) I (fun _ _ e => e) (Nat.le_refl _) (r.rep k.toNat) z1, rfl, q _ _ I.fresh rfl⟩
/-- lists: one that is only read may be glued, repeated too -/
theorem op_bin {op : Operator} (hK : X.K = S.K) : OpR X (binaryOp op) (rBin S W (binD op)) := by
  intro pins s σ' H x y v u Q I rx ry h
  obtain ⟨F, σ, ρ, r, s', R, h1, h2, w⟩ := h
  obtain ⟨d, e, z, p1, p2, hz, w⟩ := lift2_inv (α := Unit) w
  have t1 := peek_top R h1 p1
  have t2 := peek_top R h2 p2
  unfold binD at hz
  split at hz
  · cases hz
    exact op_add pins s σ' H x y v u Q I rx ry ⟨_, _, t1, t2, put_val R w rfl⟩
  · obtain ⟨ok, hz⟩ := chk_inv hz
    cases hz
    obtain ⟨a, vs, rfl, ta, ra⟩ := t1
    obtain ⟨b, us, rfl, tb, rb⟩ := t2
    rw [← hK] at ta tb
    have la := reps_length ra
    have lb := reps_length rb
    refine op_catZ pins s σ' H _ _ v u Q I rx ry ⟨a, b, vs, us, rfl, rfl, ta.seq, tb.seq, by rw [← la, ← lb]; exact okLen_le ok, fun e => ?_, fun _ e => ?_, fun _ _ p ob n hd => put_tup R w (reps_append ra rb) n hd⟩
    · subst e
      have e0 := List.eq_nil_of_length_eq_zero la
      subst e0
      exact put_val R w ⟨b, us, rfl, hK ▸ tb, rb⟩
    · subst e
      have e0 := List.eq_nil_of_length_eq_zero lb
      subst e0
      rw [List.append_nil] at w
      exact put_val R w ⟨a, vs, rfl, hK ▸ ta, ra⟩
  · obtain ⟨ok, hz⟩ := chk_inv hz
    cases hz
    obtain ⟨a, vs, rfl, ta, ra⟩ := t1
    obtain ⟨b, us, rfl, tb, rb⟩ := t2
    exact op_cat pins s σ' H _ _ v u Q I rx ry ⟨a, b, vs, us, rfl, rfl, ta, tb, by rw [← reps_length ra, ← reps_length rb]; exact okLen_le ok, fun p n => put_lst R w (reps_append ra rb) n⟩
  · cases hz
    exact op_sub pins s σ' H x y v u Q I rx ry ⟨_, _, t1, t2, put_val R w rfl⟩
  · obtain ⟨ok, hz⟩ := chk_inv hz
    cases hz
    exact op_mulX pins s σ' H x y v u Q I rx ry ⟨_, _, t1, t2, log_mul ok, put_val R w rfl⟩
  · obtain ⟨ok, hz⟩ := chk_inv hz
    cases hz
    simp only [Bool.and_eq_true, decide_eq_true_eq, Bool.not_eq_true', List.isEmpty_eq_false_iff] at ok
    obtain ⟨a, vs, rfl, ta, ra⟩ := t1
    rw [← hK] at ta
    have la := reps_length ra
    refine op_repZ pins s σ' H _ _ v u Q I rx ry ⟨a, _, vs, rfl, t2, ta.seq, fun e => ?_, ok.1.1.2, ok.1.2, by rw [← la]; exact ok.2, fun p ob n hd => put_tup R w (reps_rep ra _) n hd⟩
    subst e
    exact ok.1.1.1 (List.eq_nil_of_length_eq_zero la)
  · obtain ⟨ok, hz⟩ := chk_inv hz
    cases hz
    rw [Bool.and_eq_true] at ok
    obtain ⟨k1, k2⟩ := small_in ok.1
    obtain ⟨a, vs, rfl, ta, ra⟩ := t1
    exact op_rep pins s σ' H _ _ v u Q I rx ry ⟨a, _, vs, rfl, t2, ta, by omega, by omega, by rw [← reps_length ra]; exact okLen_le ok.2, fun p n => put_lst R w (reps_rep ra _) n⟩
  · obtain ⟨ok, hz⟩ := chk_inv hz
    cases hz
    exact op_fdivW pins s σ' H x y v u Q I rx ry ⟨_, _, t1, t2, log_div ok, put_val R w rfl⟩
  · obtain ⟨ok, hz⟩ := chk_inv hz
    cases hz
    exact op_mod pins s σ' H x y v u Q I rx ry ⟨_, _, t1, t2, of_decide_eq_true ok, put_val R w rfl⟩
  · obtain ⟨ok, hz⟩ := chk_inv hz
    cases hz
    simp only [Bool.and_eq_true, decide_eq_true_eq] at ok
    exact op_pow pins s σ' H x y v u Q I rx ry ⟨_, _, t1, t2, ⟨ok.1.1, by omega, ok.2⟩, put_val R w rfl⟩
  · cases hz
end
/-! ### == -/
mutual
theorem rep_dp {S : Sx} {F : Fz} {H : Hp} : ∀ (d : D) (v : V), rep S F H d v → PyData.canLay0 d.py = true → Dp S.K H v d.py
  | .non, _, h, _ => by rw [show _ = V.non from h]; exact .non
  | .bl b, _, h, _ => by rw [show _ = V.bl b from h]; exact .bl b
  | .int i, _, h, _ => by rw [show _ = V.int i from h]; exact .int i
  | .str s, _, h, _ => by rw [show _ = V.str s from h]; exact .str s
  | .tup ds, _, h, c => by
    obtain ⟨a, vs, rfl, t, r⟩ := h
    exact .tup t.seq (reps_dp ds vs r c)
  | .lst ds, _, h, c => by
    obtain ⟨a, vs, rfl, _, t, r⟩ := h
    exact .lst (SqL.of t) (reps_dp ds vs r c)
  | .fn _, _, _, c => by cases c
  | .emp, _, _, c => by cases c
  | .scr _, _, _, c => by cases c
theorem reps_dp {S : Sx} {F : Fz} {H : Hp} : ∀ (ds : List D) (vs : List V), reps S F H ds vs → PyData.canLayAll0 (D.pys ds) = true → DpAll S.K H vs (D.pys ds)
  | [], _, h, _ => by rw [show _ = [] from h]; exact .nil
  | d :: ds, _, h, c => by
    obtain ⟨v, r, rfl, h1, h2⟩ := h
    have c : (PyData.canLay0 d.py && PyData.canLayAll0 (D.pys ds)) = true := c
    rw [Bool.and_eq_true] at c
    exact .cons (rep_dp d v h1 c.1) (reps_dp ds r h2 c.2)
end
theorem top_dp {S : Sx} {F : Fz} {H : Hp} {d : D} {v : V} (h : top S F H d v) (c : SeqAt.shaped d.py = true) : Dp S.K H v d.py := by
  have c := SeqAt.canLay_of_shaped c
  cases d with
  | lst ds =>
    obtain ⟨a, vs, rfl, t, r⟩ := h
    exact .lst (SqL.of t) (reps_dp ds vs r c)
  | non => exact rep_dp (F := F) (H := H) _ _ h c
  | bl b => exact rep_dp (F := F) (H := H) _ _ h c
  | int i => exact rep_dp (F := F) (H := H) _ _ h c
  | str s => exact rep_dp (F := F) (H := H) _ _ h c
  | tup ds => exact rep_dp (F := F) (H := H) _ _ h c
  | fn k => exact rep_dp (F := F) (H := H) _ _ h c
  | emp => exact rep_dp (F := F) (H := H) _ _ h c
  | scr ns => exact rep_dp (F := F) (H := H) _ _ h c
theorem ints_inv {S : Sx} {F : Fz} {H : Hp} : ∀ {ds : List D} {ns : List Int} {vs : List V}, intsD ds = some ns → reps S F H ds vs → vs = ns.map V.int
  | [], ns, _, e, r => by
    rw [show _ = [] from r]
    cases e
    rfl
  | d :: ds, ns, _, e, r => by
    obtain ⟨v, us, rfl, h1, h2⟩ := r
    cases d <;> first | cases e | skip
    rename_i i
    have e : (intsD ds).map (i :: ·) = some ns := e
    cases h : intsD ds with
    | none => rw [h] at e; cases e
    | some ms =>
      rw [h] at e
      cases e
      rw [show v = V.int i from h1, ints_inv h h2]
      rfl
def cmpR (op : CmpOp) : D → D → Option Rv := fun d e => (cmpD op d e).map rvB
theorem flat_rep {S : Sx} {F : Fz} {H : Hp} {d : D} {v : V} (h : top S F H d v) (f : flatD d = true) : flatV v = true := by
  cases d <;> first | cases f | skip
  · rw [show v = V.non from h]; rfl
  · rename_i b; rw [show v = V.bl b from h]; rfl
  · rename_i b; rw [show v = V.int b from h]; rfl
  · rename_i b; rw [show v = V.str b from h]; rfl
theorem eqF_rep {S : Sx} {F : Fz} {H : Hp} {d e : D} {v u : V} (h : top S F H d v) (h' : top S F H e u) (f : flatD d = true) (f' : flatD e = true) : eqV v u = eqF d e := by
  cases d <;> first | cases f | skip
  · rw [show v = V.non from h]
    cases e <;> first | cases f' | skip
    · rw [show u = V.non from h']; rfl
    · rename_i b; rw [show u = V.bl b from h']; rfl
    · rename_i b; rw [show u = V.int b from h']; rfl
    · rename_i b; rw [show u = V.str b from h']; rfl
  · rename_i c
    rw [show v = V.bl c from h]
    cases e <;> first | cases f' | skip
    · rw [show u = V.non from h']; rfl
    · rename_i b; rw [show u = V.bl b from h']; rfl
    · rename_i b; rw [show u = V.int b from h']; rfl
    · rename_i b; rw [show u = V.str b from h']; rfl
  · rename_i c
    rw [show v = V.int c from h]
    cases e <;> first | cases f' | skip
    · rw [show u = V.non from h']; rfl
    · rename_i b; rw [show u = V.bl b from h']; rfl
    · rename_i b; rw [show u = V.int b from h']; rfl
    · rename_i b; rw [show u = V.str b from h']; rfl
  · rename_i c
    rw [show v = V.str c from h]
    cases e <;> first | cases f' | skip
    · rw [show u = V.non from h']; rfl
    · rename_i b; rw [show u = V.bl b from h']; rfl
    · rename_i b; rw [show u = V.int b from h']; rfl
    · rename_i b; rw [show u = V.str b from h']; rfl
theorem flat_reps {S : Sx} {F : Fz} {H : Hp} : ∀ {ds : List D} {vs : List V}, reps S F H ds vs → ds.all flatD = true → vs.all flatV = true
  | [], _, h, _ => by rw [show _ = [] from h]; rfl
  | d :: ds, _, h, f => by
    obtain ⟨v, r, rfl, h1, h2⟩ := h
    rw [List.all_cons, Bool.and_eq_true] at f
    rw [List.all_cons, Bool.and_eq_true]
    exact ⟨flat_rep (rep_top h1) f.1, flat_reps h2 f.2⟩
theorem in_reps {S : Sx} {F : Fz} {H : Hp} {x : D} {u : V} (hx : top S F H x u) (fx : flatD x = true) : ∀ {ds : List D} {vs : List V}, reps S F H ds vs → ds.all flatD = true → inV u vs = ds.any fun y => eqF y x
  | [], _, h, _ => by rw [show _ = [] from h]; rfl
  | d :: ds, _, h, f => by
    obtain ⟨v, r, rfl, h1, h2⟩ := h
    rw [List.all_cons, Bool.and_eq_true] at f
    unfold inV
    rw [List.any_cons, List.any_cons, eqF_rep (rep_top h1) hx f.1 fx]
    congr 1
    exact in_reps hx fx h2 f.2
/-- a sequence, as it is now -/
theorem top_seq {S : Sx} {F : Fz} {H : Hp} {d : D} {v : V} {ds : List D} (h : top S F H d v) (e : seqD d = some ds) : ∃ a vs, v = .ref a ∧ (SqL S.K H a vs ∨ SqT S.K H a vs) ∧ reps S F H ds vs := by
  cases d <;> first | cases e | skip
  · obtain ⟨a, vs, rfl, t, r⟩ := h
    exact ⟨a, vs, rfl, .inr t.seq, r⟩
  · obtain ⟨a, vs, rfl, t, r⟩ := h
    exact ⟨a, vs, rfl, .inl (SqL.of t), r⟩
section
variable {S : Sx} {W : WX} {X : Cx}
theorem op_isNN : OpR X (compareOp .Is) (fun x y H Q => y = .non ∧ Q (.bl (decide (x = .non))) H) := op_isN
def isNon : D → Bool
  | .non => true
  | _ => false
theorem top_non {F : Fz} {H : Hp} : ∀ {d : D} {v : V}, top S F H d v → decide (v = .non) = isNon d
  | .non, _, h => by rw [show _ = V.non from h]; rfl
  | .bl b, _, h => by rw [show _ = V.bl b from h]; rfl
  | .int b, _, h => by rw [show _ = V.int b from h]; rfl
  | .str b, _, h => by rw [show _ = V.str b from h]; rfl
  | .tup _, _, h => by obtain ⟨a, vs, rfl, _⟩ := h; rfl
  | .lst _, _, h => by obtain ⟨a, vs, rfl, _⟩ := h; rfl
  | .fn k, _, h => by rw [show _ = V.ref (S.fa k) from h]; rfl
  | .emp, _, h => by obtain ⟨a, rfl, _⟩ := h; rfl
  | .scr _, _, h => by obtain ⟨a, rfl, _⟩ := h; rfl
theorem is_inv {d e : D} {c : Bool} (h : isD d e = some c) : (e = .non ∧ c = isNon d) ∨ ∃ a b, d = .bl a ∧ e = .bl b ∧ c = decide (a = b) := by
  unfold isD at h
  split at h
  · cases h; exact .inl ⟨rfl, rfl⟩
  · rename_i h0
    cases h
    refine .inl ⟨rfl, ?_⟩
    cases d <;> first | rfl | exact (h0 rfl).elim
  · cases h; exact .inr ⟨_, _, rfl, rfl, rfl⟩
  · cases h
theorem in_inv {x xs : D} {c : Bool} (h : inD x xs = some c) : ∃ ds, seqD xs = some ds ∧ flatD x = true ∧ ds.all flatD = true ∧ c = ds.any fun y => eqF y x := by
  unfold inD at h
  cases e : seqD xs with
  | none => rw [e] at h; cases h
  | some ds =>
    rw [e] at h
    obtain ⟨k, h⟩ := chk_inv h
    cases h
    rw [Bool.and_eq_true] at k
    exact ⟨ds, rfl, k.1, k.2, rfl⟩
theorem op_cmp {op : CmpOp} (hK : X.K = S.K) (hu : X.A.units + 64 < cLine) : OpR X (compareOp op) (rBin S W (cmpR op)) := by
  intro pins s σ' H x y v u Q I rx ry h
  obtain ⟨F, σ, ρ, r, s', R, h1, h2, w⟩ := h
  obtain ⟨d, e, z, p1, p2, hz, w⟩ := lift2_inv (α := Unit) w
  have t1 := peek_top R h1 p1
  have t2 := peek_top R h2 p2
  unfold cmpR at hz
  cases hc : cmpD op d e with
  | none => rw [hc] at hz; cases hz
  | some c =>
    rw [hc] at hz
    cases hz
    have q : Q (.bl c) H := put_val R w rfl
    clear w
    have eqn : ∀ {c}, eqD d e = some c → SeqAt.shaped d.py = true ∧ SeqAt.shaped e.py = true ∧ c = PyData.eqv d.py e.py := fun {c} h => by
      unfold eqD at h
      split at h
      · rename_i k
        cases h
        rw [Bool.and_eq_true] at k
        exact ⟨k.1, k.2, rfl⟩
      · cases h
    cases op
    · obtain ⟨s1, s2, rfl⟩ := eqn hc
      exact op_eqD hu pins s σ' H x y v u Q I rx ry ⟨_, _, hK ▸ top_dp t1 s1, hK ▸ top_dp t2 s2, s1, s2, q⟩
    · cases h0 : eqD d e with
      | none => simp only [cmpD, h0] at hc; cases hc
      | some c0 =>
        simp only [cmpD, h0] at hc
        cases hc
        obtain ⟨s1, s2, rfl⟩ := eqn h0
        exact op_neD hu pins s σ' H x y v u Q I rx ry ⟨_, _, hK ▸ top_dp t1 s1, hK ▸ top_dp t2 s2, s1, s2, q⟩
    · simp only [cmpD] at hc
      split at hc
      · cases hc; exact op_lt pins s σ' H x y v u Q I rx ry ⟨_, _, t1, t2, q⟩
      · rename_i xs ys
        obtain ⟨a, vs, rfl, ta, ra⟩ := t1
        obtain ⟨b, us, rfl, tb, rb⟩ := t2
        rw [← hK] at ta tb
        unfold ltT at hc
        split at hc
        · rename_i ns ms en em
          cases hc
          have e1 := ints_inv en ra
          have e2 := ints_inv em rb
          subst e1
          subst e2
          exact op_ltT (by omega) pins s σ' H _ _ v u Q I rx ry ⟨a, b, ns, ms, rfl, rfl, ta.seq, tb.seq, q⟩
        · cases hc
      · cases hc
    · simp only [cmpD] at hc
      split at hc
      · cases hc; exact op_le pins s σ' H x y v u Q I rx ry ⟨_, _, t1, t2, q⟩
      · cases hc
    · simp only [cmpD] at hc
      split at hc
      · cases hc; exact op_gt pins s σ' H x y v u Q I rx ry ⟨_, _, t1, t2, q⟩
      · cases hc
    · simp only [cmpD] at hc
      split at hc
      · cases hc; exact op_ge pins s σ' H x y v u Q I rx ry ⟨_, _, t1, t2, q⟩
      · cases hc
    · rcases is_inv hc with ⟨rfl, rfl⟩ | ⟨a, b, rfl, rfl, rfl⟩
      · exact op_isN pins s σ' H x y v u Q I rx ry ⟨t2, by rw [top_non t1]; exact q⟩
      · exact op_isBl pins s σ' H x y v u Q I rx ry ⟨a, b, t1, t2, q⟩
    · cases h0 : isD d e with
      | none => simp only [cmpD, h0] at hc; cases hc
      | some c0 =>
        simp only [cmpD, h0] at hc
        cases hc
        rcases is_inv h0 with ⟨rfl, rfl⟩ | ⟨a, b, rfl, rfl, rfl⟩
        · exact op_notN pins s σ' H x y v u Q I rx ry ⟨t2, by rw [top_non t1]; exact q⟩
        · exact op_notBl pins s σ' H x y v u Q I rx ry ⟨a, b, t1, t2, q⟩
    · obtain ⟨ds, es, fx, fs, rfl⟩ := in_inv hc
      obtain ⟨a, vs, rfl, hs, rs⟩ := top_seq t2 es
      refine op_in_seq pins s σ' H x _ v u Q I rx ry ⟨a, vs, rfl, hK ▸ hs, flat_rep t1 fx, flat_reps rs fs, ?_⟩
      rw [if_neg Bool.false_ne_true, in_reps t1 fx rs fs]
      exact q
    · cases h0 : inD d e with
      | none => simp only [cmpD, h0] at hc; cases hc
      | some c0 =>
        simp only [cmpD, h0] at hc
        cases hc
        obtain ⟨ds, es, fx, fs, rfl⟩ := in_inv h0
        obtain ⟨a, vs, rfl, hs, rs⟩ := top_seq t2 es
        refine op_notIn_seq pins s σ' H x _ v u Q I rx ry ⟨a, vs, rfl, hK ▸ hs, flat_rep t1 fx, flat_reps rs fs, ?_⟩
        rw [if_pos rfl, in_reps t1 fx rs fs]
        exact q
/-! ### truth, unary operators -/
theorem isEmpty_len {α β : Type} : ∀ {ds : List α} {vs : List β}, ds.length = vs.length → (!ds.isEmpty) = !vs.isEmpty
  | [], [], _ => rfl
  | _ :: _, _ :: _, _ => rfl
  | [], _ :: _, h => by simp at h
  | _ :: _, [], h => by simp at h
theorem tru_top {F : Fz} {H : Hp} : ∀ {d : D} {v : V} {b : Bool}, top S F H d v → truD d = some b → TruV S.K v H b
  | .non, _, _, h, e => by rw [show _ = V.non from h]; exact (Option.some.inj e).symm
  | .bl c, _, _, h, e => by rw [show _ = V.bl c from h]; exact (Option.some.inj e).symm
  | .int i, _, _, h, e => by rw [show _ = V.int i from h]; exact (Option.some.inj e).symm
  | .str x, _, b, h, e => by
    rw [show _ = V.str x from h]
    have e : (match decide (x.length ≤ sizeLine) with | true => some ((x.length : Int) != 0) | false => none) = some b := e
    split at e
    · rename_i k
      exact ⟨of_decide_eq_true k, (Option.some.inj e).symm⟩
    · cases e
  | .tup ds, _, _, h, e => by
    obtain ⟨a, vs, rfl, t, r⟩ := h
    exact .inr (.inl ⟨vs, t.seq, by rw [← isEmpty_len (reps_length r)]; exact (Option.some.inj e).symm⟩)
  | .lst ds, _, _, h, e => by
    obtain ⟨a, vs, rfl, t, r⟩ := h
    exact .inl ⟨vs, SqL.of t, by rw [← isEmpty_len (reps_length r)]; exact (Option.some.inj e).symm⟩
  | .fn _, _, _, _, e => by cases e
  | .emp, _, _, _, e => by cases e
  | .scr _, _, _, _, e => by cases e
/-! ### subscripts -/
theorem atI_reps {F : Fz} {H : Hp} {ds : List D} {vs : List V} {k : Int} {d : D} (r : reps S F H ds vs) (e : atI ds k = some d) : ∃ v, atI vs k = some v ∧ rep S F H d v := by
  unfold atI at e ⊢
  rw [← reps_length r]
  cases h : ixN ds.length k with
  | none => rw [h] at e; cases e
  | some j =>
    rw [h] at e
    exact reps_get r e
def ixR : D → D → Option Rv := fun d k => (ixD d k).map Rv.val
theorem ix_D (hK : X.K = S.K) : IxR X (rBin S W ixR) := by
  intro value slice pins s σ' H x y v u Q I rx ry h hs
  obtain ⟨F, σ, ρ, r, s', R, h1, h2, w⟩ := h
  obtain ⟨d, e, z, p1, p2, hz, w⟩ := lift2_inv (α := Unit) w
  have t1 := peek_top R h1 p1
  have t2 := peek_top R h2 p2
  unfold ixR at hz
  cases hc : ixD d e with
  | none => rw [hc] at hz; cases hz
  | some c =>
    rw [hc] at hz
    cases hz
    unfold ixD at hc
    split at hc
    · obtain ⟨a, vs, rfl, t, rr⟩ := t1
      obtain ⟨w', e1, e2⟩ := atI_reps rr hc
      exact ix_tup value slice pins s σ' H _ y v u Q I rx ry ⟨a, vs, _, w', rfl, t2, hK ▸ t.seq, e1, put_val R w e2⟩ hs
    · obtain ⟨a, vs, rfl, t, rr⟩ := t1
      obtain ⟨w', e1, e2⟩ := atI_reps rr hc
      exact ix_list value slice pins s σ' H _ y v u Q I rx ry ⟨a, vs, _, w', rfl, t2, SqL.of t, e1, put_val R w e2⟩ hs
    · cases hc
theorem cut_reps {F : Fz} {H : Hp} {ds : List D} {vs : List V} (lo hi : Option Int) (r : reps S F H ds vs) : reps S F H (cutD ds lo hi) (cutV vs lo hi) := by
  unfold cutD cutV
  rw [← reps_length r]
  exact reps_take _ (reps_drop _ r)
theorem ints_reps {F : Fz} {H : Hp} : ∀ ns : List Int, reps S F H (ns.map D.int) (ns.map V.int)
  | [] => rfl
  | n :: ns => ⟨_, _, rfl, rfl, ints_reps ns⟩
/-- d[lo:hi] -/
def rSl (S : Sx) (W : WX) : V → Option Int → Option Int → Hp → VK → Prop := fun x lo hi H Q => ∃ F σ ρ r, SRep S F σ ρ H ∧ RepR S F σ ρ H r x ∧ Wg S W σ F ρ H (lift1 (fun d => slD d lo hi) r ρ) (GQ S σ H Q)
theorem sl_D (hK : X.K = S.K) : SlR X (rSl S W) := by
  intro pins s σ' H x v vl vu lo hi sl Q I rx hs pl pu h
  obtain ⟨F, σ, ρ, r, R, h1, w⟩ := h
  obtain ⟨d, z, p1, hz, w⟩ := lift1_inv w
  have t1 := peek_top R h1 p1
  unfold slD at hz
  split at hz
  · cases hz
    rename_i ds
    obtain ⟨a, vs, rfl, t, rr⟩ := t1
    refine sl_tupZ pins s σ' H _ v vl vu lo hi sl Q I rx hs pl pu ⟨a, vs, rfl, hK ▸ t.seq, fun e => ?_, fun _ p ob n hd => put_tup R w (cut_reps lo hi rr) n hd⟩
    refine put_val R w ⟨a, vs, rfl, t, ?_⟩
    have q := cut_reps lo hi rr
    have e0 : cutV vs lo hi = vs := by
      unfold cutV
      rw [e.1, e.2, List.drop_zero, Nat.sub_zero, List.take_length]
    rw [e0] at q
    exact q
  · cases hz
    obtain ⟨a, vs, rfl, t, rr⟩ := t1
    exact sl_list pins s σ' H _ v vl vu lo hi sl Q I rx hs pl pu ⟨a, vs, rfl, SqL.of t, fun p n => put_lst R w (cut_reps lo hi rr) n⟩
  · cases hz
    obtain ⟨a, rfl, t⟩ := t1
    exact sl_list pins s σ' H _ v vl vu lo hi sl Q I rx hs pl pu ⟨a, _, rfl, hK ▸ t.seq, fun p n => put_lst R w (cut_reps lo hi (ints_reps _)) n⟩
  · cases hz
end
end Pyd
end

section
set_option Elab.async false
set_option linter.all false
set_option maxRecDepth 100000
set_option maxHeartbeats 4000000
/-! Pyd, part E: arguments; built-in functions and classes, isinstance, methods by data. -/
namespace Pyd
open PySem PySem.Spec L2
open PyProof.Rows hiding St
theorem PE.sub {X : Cx} {e : Expr} {t t' : TE} (h : PE X e t) (i : ∀ σ H Q, t' σ H Q → t σ H Q) : PE X e t' := ⟨fun pins s σ H Q I q => h.run pins s σ H Q I (i σ H Q q)⟩
theorem PT.sub {X : Cx} {e : Expr} {t t' : TT} (h : PT X e t) (i : ∀ σ H Q, t' σ H Q → t σ H Q) : PT X e t' := ⟨fun pins s σ H Q I q => h.run pins s σ H Q I (i σ H Q q)⟩
theorem PW.sub {X : Cx} {e : Expr} {t t' : TT} (h : PW X e t) (i : ∀ σ H Q, t' σ H Q → t σ H Q) : PW X e t' := ⟨fun wh pins s σ H Q I q => h.run wh pins s σ H Q I (i σ H Q q)⟩
theorem PA.sub {X : Cx} {es : List Expr} {t t' : TA} (h : PA X es t) (i : ∀ σ H Q, t' σ H Q → t σ H Q) : PA X es t' := ⟨fun pos pins s σ H Q I q => h.run pos pins s σ H Q I (i σ H Q q)⟩
theorem PS.sub {X : Cx} {e : Stmt} {t t' : TS} (h : PS X e t) (i : ∀ D σ H, t' D σ H → t D σ H) : PS X e t' := ⟨fun pins s σ H D I q => h.run pins s σ H D I (i D σ H q)⟩
theorem PSs.sub {X : Cx} {e : List Stmt} {t t' : TS} (h : PSs X e t) (i : ∀ D σ H, t' D σ H → t D σ H) : PSs X e t' := ⟨fun pins s σ H D I q => h.run pins s σ H D I (i D σ H q)⟩
theorem PI.sub {X : Cx} {tg e : Expr} {t t' : TI} (h : PI X tg e t) (i : ∀ σ H Q, t' σ H Q → t σ H Q) : PI X tg e t' := ⟨fun pins s σ H Q I q => h.run pins s σ H Q I (i σ H Q q)⟩
theorem PG.sub {X : Cx} {e : Expr} {t t' : TG} (h : PG X e t) (i : ∀ v σ H Q, t' v σ H Q → t v σ H Q) : PG X e t' := ⟨fun pins s σ H v u Q I r q => h.run pins s σ H v u Q I r (i v σ H Q q)⟩

/-! ### several results -/
def IsOwn : Rv → Prop
  | .own _ => True
  | _ => False
def RepRs (S : Sx) (F : Fz) (σ : St) (ρ : List Sl) (H : Hp) : List Rv → List V → Prop
  | [], vs => vs = []
  | r :: rs, vs => ∃ v us, vs = v :: us ∧ RepR S F σ ρ H r v ∧ RepRs S F σ ρ H rs us ∧ (IsOwn r → ∀ (j : Nat) r' v', rs[j]? = some r' → us[j]? = some v' → IsOwn r' → v' ≠ v)
def News (H : Hp) : List Rv → List V → Prop
  | r :: rs, v :: vs => New H r v ∧ News H rs vs
  | _, _ => True
theorem News.back {O : Addr → Prop} {F F' : Fz} {H H' : Hp} (s : Step O F H F' H') : ∀ {rs : List Rv} {vs : List V}, News H' rs vs → News H rs vs
  | [], _, _ => trivial
  | _ :: _, [], _ => trivial
  | _ :: _, _ :: _, h => ⟨h.1.back s, News.back s h.2⟩
theorem RepRs.mono {S : Sx} {F F' : Fz} {σ : St} {ρ ρ' : List Sl} {H H' : Hp} (R : SRep S F σ ρ H) (p : Post S F σ ρ H F' σ ρ' H') : ∀ {rs : List Rv} {vs : List V}, RepRs S F σ ρ H rs vs → RepRs S F' σ ρ' H' rs vs
  | [], _, h => h
  | _ :: _, _, h => by
    obtain ⟨v, us, e, h1, h2, h3⟩ := h
    exact ⟨v, us, e, h1.mono R p, RepRs.mono R p h2, h3⟩
theorem news_own {H : Hp} : ∀ {rs : List Rv} {vs : List V} {j : Nat} {r : Rv} {v : V}, News H rs vs → rs[j]? = some r → vs[j]? = some v → IsOwn r → ∀ a, v = .ref a → Nn H a
  | [], _, _, _, _, _, e, _, _ => by simp at e
  | _ :: _, [], _, _, _, _, _, e, _ => by simp at e
  | r :: rs, v :: vs, 0, r', v', h, e1, e2, o => by
    have e1 : r = r' := by simpa using e1
    have e2 : v = v' := by simpa using e2
    subst e1
    subst e2
    cases r with
    | own _ => exact h.1
    | val _ => exact o.elim
    | var _ => exact o.elim
  | _ :: rs, _ :: vs, j + 1, r', v', h, e1, e2, o => news_own (j := j) h.2 (by simpa using e1) (by simpa using e2) o
def GA (S : Sx) (σ : St) (H : Hp) (Q : List V → Hp → Prop) : List Rv → Fz → List Sl → Hp → Prop := fun rs F' ρ' H' => ∀ vs, RepRs S F' σ ρ' H' rs vs → News H rs vs → Q vs H'
def tA (S : Sx) (W : WX) (m : M (List Rv)) : TA := fun σ H Q => ∃ F ρ, SRep S F σ ρ H ∧ Wg S W σ F ρ H (m ρ) (GA S σ H Q)
section
variable {S : Sx} {W : WX} {X : Cx} {σ : St} {F : Fz} {ρ : List Sl} {H : Hp} {β : Type}
theorem run_A {m : M (List Rv)} {k : List Rv → M β} {G : β → Fz → List Sl → Hp → Prop} {Q : List V → Hp → Prop} (R : SRep S F σ ρ H) (h : Wg S W σ F ρ H (M.bnd m k ρ) G)
    (i : ∀ rs F1 ρ1 H1 vs, Post S F σ ρ H F1 σ ρ1 H1 → RepRs S F1 σ ρ1 H1 rs vs → News H rs vs → Wg S W σ F1 ρ1 H1 (k rs ρ1) G → Q vs H1) : tA S W m σ H Q :=
  ⟨F, ρ, R, h.bnd.imp fun rs F1 ρ1 H1 p w vs rv nv => i rs F1 ρ1 H1 vs p rv nv w⟩
theorem star_ok {e : Expr} {es : List Expr} {env : Env} (h : ∀ e' p, e ≠ .Starred e' p) : starEach (e :: es) env = (false, eval e env) :: starEach es env := by
  cases e <;> first | rfl | exact (h _ _ rfl).elim
theorem evArgs_cons {f : Expr → M Rv} {e : Expr} {es : List Expr} (hs : ∀ e' p, e ≠ .Starred e' p) : evArgs f (e :: es) = M.bnd (f e) fun r => M.bnd (evArgs f es) fun rs => M.ret (r :: rs) := by
  cases e <;> first | rfl | exact (hs _ _ rfl).elim
theorem pa_ev {f : Expr → M Rv} : ∀ {es : List Expr}, (∀ e ∈ es, PE X e (tE S W (f e))) → PA X es (tA S W (evArgs f es))
  | [], _ => PA.sub pa_nil fun σ H Q ⟨F, ρ, R, w⟩ => Wg.now R w [] rfl trivial
  | e :: es, h => by
    by_cases hs : ∃ e' p, e = .Starred e' p
    · obtain ⟨e', p, rfl⟩ := hs
      exact ⟨fun _ _ _ _ _ _ _ ⟨_, _, _, w⟩ => w.elim⟩
    · have hs : ∀ e' p, e ≠ .Starred e' p := fun e' p z => hs ⟨e', p, z⟩
      have h1 := h e List.mem_cons_self
      have h2 := pa_ev (es := es) fun e' he => h e' (List.mem_cons_of_mem _ he)
      refine PA.sub (pa_cons h1 h2 (star_ok hs)) fun σ H Q ⟨F, ρ, R, w⟩ => ?_
      rw [evArgs_cons hs] at w
      refine run_E R w fun r F1 ρ1 H1 v p1 rv nv w => ?_
      refine run_A p1.rep w fun rs F2 ρ2 H2 vs p2 rvs nvs w => ?_
      refine Wg.now p2.rep w (v :: vs) ⟨v, vs, rfl, rv.mono p1.rep p2, rvs, fun o j r' v' e1 e2 o' z => ?_⟩ ⟨nv, nvs.back p1.step⟩
      cases r with
      | val _ => exact o.elim
      | var _ => exact o.elim
      | own ob =>
        obtain ⟨a, ea, _, _, q⟩ := rv
        obtain ⟨us, ea2⟩ := obj_lst q
        have n := news_own nvs e1 e2 o' a (z.trans ea)
        exact n.lst ea2
end
theorem bnd_assoc {α β γ : Type} (m : M α) (k : α → M β) (l : β → M γ) : M.bnd (M.bnd m k) l = M.bnd m fun a => M.bnd (k a) l := by
  funext ρ
  unfold M.bnd
  cases m ρ <;> rfl
theorem bnd_ret {α β : Type} (a : α) (k : α → M β) : M.bnd (M.ret a) k = k a := rfl
/-- data by places -/
def tops (S : Sx) (F : Fz) (H : Hp) : List D → List V → Prop
  | [], vs => vs = []
  | d :: ds, vs => ∃ v us, vs = v :: us ∧ top S F H d v ∧ tops S F H ds us
section
variable {S : Sx} {W : WX} {X : Cx} {σ : St} {F : Fz} {ρ : List Sl} {H : Hp} {β : Type}
theorem looks_inv {k : List D → M β} {G : β → Fz → List Sl → Hp → Prop} (R : SRep S F σ ρ H) : ∀ {rs : List Rv} {vs : List V} {k : List D → M β}, RepRs S F σ ρ H rs vs → Wg S W σ F ρ H (M.bnd (looks rs) k ρ) G → ∃ ds, tops S F H ds vs ∧ Wg S W σ F ρ H (k ds ρ) G
  | [], _, k, h, w => ⟨[], h, w⟩
  | r :: rs, _, k, h, w => by
    obtain ⟨v, us, rfl, h1, h2, _⟩ := h
    have e : M.bnd (looks (r :: rs)) k = M.bnd (Pyd.look r) (fun d => M.bnd (looks rs) fun ds => k (d :: ds)) := by
      show M.bnd (M.bnd (Pyd.look r) fun d => M.bnd (looks rs) fun ds => M.ret (d :: ds)) k = _
      simp only [bnd_assoc, bnd_ret]
    rw [e] at w
    obtain ⟨d, e, w⟩ := Wg.look w
    obtain ⟨ds, t, w⟩ := looks_inv R (k := fun ds => k (d :: ds)) h2 w
    exact ⟨d :: ds, ⟨v, us, rfl, peek_top R h1 e, t⟩, w⟩
end
/-- a built-in by data -/
def rBi (S : Sx) (W : WX) (f : List D → Option Rv) : List V → Hp → VK → Prop := fun vs H Q => ∃ F σ ρ rs, SRep S F σ ρ H ∧ RepRs S F σ ρ H rs vs ∧ Wg S W σ F ρ H (M.bnd (looks rs) (fun ds => M.opt (f ds)) ρ) (GQ S σ H Q)
theorem opt_end {S : Sx} {W : WX} {σ : St} {F : Fz} {ρ : List Sl} {H : Hp} {α : Type} {o : Option α} {G : α → Fz → List Sl → Hp → Prop} (h : Wg S W σ F ρ H (M.opt o ρ) G) : ∃ a, o = some a ∧ Wg S W σ F ρ H (.ok a ρ) G := by
  cases o with
  | none => exact h.elim
  | some a => exact ⟨a, rfl, h⟩
theorem tops1 {S : Sx} {F : Fz} {H : Hp} {d : D} {vs : List V} (h : tops S F H [d] vs) : ∃ v, vs = [v] ∧ top S F H d v := by
  obtain ⟨v, us, rfl, t, e⟩ := h
  rw [show us = [] from e]
  exact ⟨v, rfl, t⟩
theorem tops2 {S : Sx} {F : Fz} {H : Hp} {d e : D} {vs : List V} (h : tops S F H [d, e] vs) : ∃ v u, vs = [v, u] ∧ top S F H d v ∧ top S F H e u := by
  obtain ⟨v, us, rfl, t, h⟩ := h
  obtain ⟨u, rfl, t'⟩ := tops1 h
  exact ⟨v, u, rfl, t, t'⟩
def TrV (b : Bool) (v : V) : Prop := v = V.bl b ∨ ∃ i : Int, v = V.int i ∧ b = (i != 0)
theorem bls_inv {S : Sx} {F : Fz} {H : Hp} : ∀ {ds : List D} {ns : List Bool} {vs : List V}, blsD ds = some ns → reps S F H ds vs → Paired TrV ns vs
  | [], ns, _, e, r => by
    rw [show _ = [] from r]
    cases e
    exact .nil
  | d :: ds, ns, _, e, r => by
    obtain ⟨v, us, rfl, h1, h2⟩ := r
    cases d <;> first | cases e | skip
    · rename_i i
      have e : (blsD ds).map (i :: ·) = some ns := e
      cases h : blsD ds with
      | none => rw [h] at e; cases e
      | some ms =>
        rw [h] at e
        cases e
        exact .cons (.inl h1) (bls_inv h h2)
    · rename_i i
      have e : (blsD ds).map ((i != 0) :: ·) = some ns := e
      cases h : blsD ds with
      | none => rw [h] at e; cases e
      | some ms =>
        rw [h] at e
        cases e
        exact .cons (.inr ⟨i, h1, rfl⟩) (bls_inv h h2)
theorem trv_get : ∀ {bs : List Bool} {vs : List V} {its : List Value}, Paired TrV bs vs → Vals vs its → ∀ (i : Nat) (u : Value), its[i]? = some u → u = Value.bool (bs.getD i false) ∨ ∃ k t, u = Value.int k t ∧ bs.getD i false = (k != 0)
  | _, _, _, .nil, .nil, i, u, h => by simp at h
  | b :: bs, _, _, .cons hb tb, .cons hv tv, i + 1, u, h => by
    have := trv_get tb tv i u (by simpa using h)
    simpa using this
  | b :: bs, v :: _, w :: _, .cons hb tb, .cons hv tv, 0, u, h => by
    have e : w = u := by simpa using h
    subst e
    rcases hb with rfl | ⟨k, rfl, e⟩
    · exact .inl hv
    · obtain ⟨t, rfl⟩ := hv
      exact .inr ⟨k, t, rfl, e⟩
theorem trv_len : ∀ {bs : List Bool} {vs : List V}, Paired TrV bs vs → vs.length = bs.length
  | _, _, .nil => rfl
  | _, _, .cons _ t => by rw [List.length_cons, List.length_cons, trv_len t]
theorem trv_truth {prog : Program} {w : World} {A : Around} {bs : List Bool} {vs : List V} {its : List Value} (p : Paired TrV bs vs) (r : Vals vs its) :
    TruthOf prog w A (fun i v => its.toArray[i]? = some v) (fun i => bs.getD i false) := fun i v s Q E hv hq => by
  have hv' : its[i]? = some v := by simpa using hv
  have hq' : Q (bs.getD i false) s := hq
  rcases trv_get p r i v hv' with rfl | ⟨k, t, rfl, e⟩
  · exact wpAny_truthy_bool hq'
  · rw [e] at hq'
    exact P.truthy_int hq'
theorem any_mix {X : Cx} (hc : X.calm = true) : CallR X (.builtin "any") (fun vs H Q => ∃ (a : Addr) (bs : List Bool) (xs : List V), vs = [V.ref a] ∧ SqL X.K H a xs ∧ Paired TrV bs xs ∧ Q (.bl (bs.any id)) H) := by
  intro pins s σ H vs us Q I r h
  obtain ⟨a, bs, xs, rfl, hs, pb, q⟩ := h
  obtain ⟨its, rv, hl, _⟩ := I.list hs
  rw [Vals.ref1 r]
  refine call_any_walk (L2.iter_any hl.isList fun s₂ e2 st hne => ?_)
  subst e2
  refine ⟨_, _, _, _, _, _, _, rfl, Walks.list (A := X.A.in1) (I.ok.hd hc) _ a hne its.toArray, st, trv_truth pb rv, fun h' tk hk => ?_⟩
  refine ⟨.bl _, H, I.kept fun b o eo => hk b o (fun hmem => ?_) (Heap.get?_push_of_some _ eo), ?_, q⟩
  · rcases List.mem_cons.mp hmem with e1 | hmem
    · exact absurd (e1 ▸ Heap.lt_size eo) (Nat.lt_irrefl _)
    · cases hmem
  · show Value.bool _ = Value.bool _
    rw [← L2.any_range, List.size_toArray, ← Vals.length rv, trv_len pb]
theorem all_mix {X : Cx} (hc : X.calm = true) : CallR X (.builtin "all") (fun vs H Q => ∃ (a : Addr) (bs : List Bool) (xs : List V), vs = [V.ref a] ∧ SqL X.K H a xs ∧ Paired TrV bs xs ∧ Q (.bl (bs.all id)) H) := by
  intro pins s σ H vs us Q I r h
  obtain ⟨a, bs, xs, rfl, hs, pb, q⟩ := h
  obtain ⟨its, rv, hl, _⟩ := I.list hs
  rw [Vals.ref1 r]
  refine call_all_walk (L2.iter_any hl.isList fun s₂ e2 st hne => ?_)
  subst e2
  refine ⟨_, _, _, _, _, _, _, rfl, Walks.list (A := X.A.in1) (I.ok.hd hc) _ a hne its.toArray, st, trv_truth pb rv, fun h' tk hk => ?_⟩
  refine ⟨.bl _, H, I.kept fun b o eo => hk b o (fun hmem => ?_) (Heap.get?_push_of_some _ eo), ?_, q⟩
  · rcases List.mem_cons.mp hmem with e1 | hmem
    · exact absurd (e1 ▸ Heap.lt_size eo) (Nat.lt_irrefl _)
    · cases hmem
  · show Value.bool _ = Value.bool _
    rw [← L2.all_range, List.size_toArray, ← Vals.length rv, trv_len pb]
theorem maxI_of : ∀ {ns : List Int} {m : Int}, m ∈ ns → (∀ y, y ∈ ns → y ≤ m) → maxI ns = m
  | [x], m, h, _ => by
    have e : m = x := by simpa using h
    exact e.symm
  | x :: y :: r, m, h, a => by
    show max x (maxI (y :: r)) = m
    have hx : x ≤ m := a x List.mem_cons_self
    by_cases hm : m ∈ y :: r
    · rw [maxI_of hm fun z hz => a z (List.mem_cons_of_mem _ hz)]
      omega
    · have e : m = x := by
        rcases List.mem_cons.mp h with e | e
        · exact e
        · exact absurd e hm
      have up : ∀ (l : List Int), l ≠ [] → (∀ z ∈ l, z ≤ m) → maxI l ≤ m := by
        intro l
        induction l with
        | nil => exact fun h => absurd rfl h
        | cons p q ih =>
          intro _ hz
          cases q with
          | nil => exact hz p List.mem_cons_self
          | cons p' q' =>
            have i1 := ih (by simp) fun z h => hz z (List.mem_cons_of_mem _ h)
            have i2 := hz p List.mem_cons_self
            show max p (maxI (p' :: q')) ≤ m
            omega
      have := up (y :: r) (by simp) fun z hz => a z (List.mem_cons_of_mem _ hz)
      omega
theorem minI_of : ∀ {ns : List Int} {m : Int}, m ∈ ns → (∀ y, y ∈ ns → m ≤ y) → minI ns = m
  | [x], m, h, _ => by
    have e : m = x := by simpa using h
    exact e.symm
  | x :: y :: r, m, h, a => by
    show min x (minI (y :: r)) = m
    have hx : m ≤ x := a x List.mem_cons_self
    by_cases hm : m ∈ y :: r
    · rw [minI_of hm fun z hz => a z (List.mem_cons_of_mem _ hz)]
      omega
    · have e : m = x := by
        rcases List.mem_cons.mp h with e | e
        · exact e
        · exact absurd e hm
      have up : ∀ (l : List Int), l ≠ [] → (∀ z ∈ l, m ≤ z) → m ≤ minI l := by
        intro l
        induction l with
        | nil => exact fun h => absurd rfl h
        | cons p q ih =>
          intro _ hz
          cases q with
          | nil => exact hz p List.mem_cons_self
          | cons p' q' =>
            have i1 := ih (by simp) fun z h => hz z (List.mem_cons_of_mem _ h)
            have i2 := hz p List.mem_cons_self
            show m ≤ min p (minI (p' :: q'))
            omega
      have := up (y :: r) (by simp) fun z hz => a z (List.mem_cons_of_mem _ hz)
      omega
/-! ### min of a list of tuples of ints -/
theorem listLt_lex : ∀ a b : List Int, PySem.W.listLt a b = HT.lexLt a b
  | [], [] => rfl
  | [], _ :: _ => rfl
  | _ :: _, [] => rfl
  | x :: xs, y :: ys => by
    show (if x = y then PySem.W.listLt xs ys else decide (x < y)) = if x = y then HT.lexLt xs ys else decide (x < y)
    rw [listLt_lex xs ys]
def pyT (a : List Int) : PyData := .tuple (a.map PyData.int)
theorem lt_pyT (a b : List Int) : PySem.W.dataLt (pyT a) (pyT b) = HT.lexLt a b := by
  rw [← listLt_lex, ← PySem.W.lexAll_map]
  unfold PySem.W.dataLt pyT
  simp only [PySem.W.keyToks]
  rfl
theorem minD_pyT : ∀ (r : List (List Int)) (a : List Int), PySem.W.minD (pyT a) (r.map pyT) = pyT (minT a r)
  | [], a => rfl
  | b :: r, a => by
    show PySem.W.minD (if PySem.W.dataLt (pyT b) (pyT a) = true then pyT b else pyT a) (r.map pyT) = pyT (minT (if HT.lexLt b a = true then b else a) r)
    rw [lt_pyT]
    cases HT.lexLt b a
    · exact minD_pyT r a
    · exact minD_pyT r b
theorem alikeT (r : List (List Int)) : PySem.W.AlikeAll (r.map pyT) := by
  refine ⟨fun x hx y hy => ?_, fun x hx e => ?_⟩
  · obtain ⟨a, _, rfl⟩ := List.mem_map.mp hx
    obtain ⟨b, _, rfl⟩ := List.mem_map.mp hy
    unfold pyT
    rw [PySem.W.alike]
    exact PySem.W.alikeAll_map a b
  · obtain ⟨a, _, rfl⟩ := List.mem_map.mp hx
    cases e
theorem depth0 : ∀ a : List Int, PyData.depthAll (a.map PyData.int) = 0
  | [] => by rw [List.map_nil, PyData.depthAll]
  | x :: a => by rw [List.map_cons, PyData.depthAll, PyData.depth, depth0 a]; rfl
theorem depthT : ∀ r : List (List Int), PyData.depthAll (r.map pyT) ≤ 1
  | [] => by rw [List.map_nil, PyData.depthAll]; omega
  | a :: r => by
    rw [List.map_cons, PyData.depthAll, pyT, PyData.depth, depth0 a]
    have := depthT r
    omega
theorem canT0 : ∀ a : List Int, PyData.canLayAll0 (a.map PyData.int) = true
  | [] => rfl
  | x :: a => by rw [List.map_cons]; exact canT0 a
theorem canT (a : List Int) : PyData.canLay0 (pyT a) = true := canT0 a
theorem pyT_inj {a b : List Int} (h : pyT a = pyT b) : a = b := by
  have e : a.map PyData.int = b.map PyData.int := by
    unfold pyT at h
    injection h
  exact List.map_inj_right (fun x y z => by injection z) |>.mp e
theorem vals_getU : ∀ {xs : List V} {us : List Value} {i : Nat} {u : Value}, Vals xs us → us[i]? = some u → ∃ x, xs[i]? = some x ∧ RelV x u
  | _, _, _, _, .nil, e => by simp at e
  | _, _, 0, _, .cons r _, e => by simp at e; subst e; exact ⟨_, rfl, r⟩
  | _, _, i + 1, u, .cons _ t, e => by
    obtain ⟨x, h1, h2⟩ := vals_getU t (by simpa using e)
    exact ⟨x, by simpa using h1, h2⟩
theorem cr_minT {X : Cx} (hc : X.calm = true) (hu : X.A.units + 64 < cLine) : CallR X (.builtin "min") (fun vs H Q => ∃ (p : Addr) (xs : List V) (a : List Int) (r : List (List Int)), vs = [.ref p] ∧ SqL X.K H p xs ∧ DpAll X.K H xs ((a :: r).map pyT) ∧
    ∀ (i : Nat) (v : V), xs[i]? = some v → (a :: r)[i]? = some (minT a r) → Q v H) := by
  intro pins s σ H vs us Q I rv h
  obtain ⟨p, xs, a, r, rfl, hs, hd, q⟩ := h
  obtain ⟨its, rv', hl, _⟩ := I.list hs
  rw [Vals.ref1 rv]
  obtain ⟨as, hr⟩ := Dp.readsAll I _ _ _ hd rv'
  have hD := depthT (a :: r)
  refine PySem.W.min_list_data (I.ok.hd hc) hl.isList (x := pyT a) (xs := r.map pyT) (by simpa using hr) (alikeT (a :: r)) (by rw [List.map_cons] at hD; omega) fun i v h' tk bs hv hrd hk => ?_
  have hv : its[i]? = some v := by simpa using hv
  obtain ⟨x, ex, rx⟩ := vals_getU rv' hv
  obtain ⟨bs', rd, li, _, _⟩ := PySem.W.readsAll_at hr i v hv
  have li : i < (a :: r).length := by simpa using li
  have e1 : ((a :: r).map pyT).getD i .none = pyT (a :: r)[i] := by
    rw [List.getD_eq_getElem?_getD, List.getElem?_map, List.getElem?_eq_getElem li]
    rfl
  rw [e1] at rd
  rw [minD_pyT] at hrd
  have e2 := pyT_inj (Reads.unique (PySem.W.reads_keeps hk rd) _ _ hrd).1
  exact ⟨x, H, I.kept hk, rx, q i x ex (by rw [List.getElem?_eq_getElem li, e2])⟩
/-- sum(t) of a tuple of ints -/
theorem sum_tup {X : Cx} (hc : X.calm = true) : CallR X (.builtin "sum") (fun vs H Q => ∃ (a : Addr) (ns : List Int), vs = [V.ref a] ∧ SqT X.K H a (ns.map V.int) ∧ Q (.int ns.sum) H) := by
  intro pins s σ H vs us Q I r h
  obtain ⟨a, ns, rfl, hs, q⟩ := h
  obtain ⟨its, rv, hl, _⟩ := I.tuple hs
  rw [Vals.ref1 r]
  have hi := rv.ints
  obtain ⟨xs, e⟩ := hi.allInts.items
  have hn : numsOf (intItems xs).toList = ns := by rw [← e]; exact hi.numsOf
  rw [nums_intItems] at hn
  obtain ⟨o, ho, hcl, n, hd⟩ := hl
  refine PySem.W.ktm_sumG (xs := xs) (I.ok.hd hc) ⟨o, ho, hcl, n, by rw [← e]; exact hd⟩ fun h' tk t' hk => ?_
  rw [preSum_eq, List.take_of_length_le (by simp), hn]
  exact ⟨.int _, H, I.kept hk, ⟨_, rfl⟩, q⟩
theorem tups_py : ∀ {ds : List D} {r : List (List Int)}, tupsI ds = some r → D.pys ds = r.map pyT ∧ ds = r.map fun a => D.tup (a.map D.int)
  | [], r, e => by cases e; exact ⟨rfl, rfl⟩
  | .tup xs :: ds, r, e => by
    have e : (match intsD xs, tupsI ds with | some a, some b => some (a :: b) | _, _ => none) = some r := e
    split at e
    · rename_i a b h1 h2
      cases e
      obtain ⟨q1, q2⟩ := tups_py h2
      have ei : ∀ {xs : List D} {a : List Int}, intsD xs = some a → D.pys xs = a.map PyData.int ∧ xs = a.map D.int := by
        intro xs
        induction xs with
        | nil => intro a h; cases h; exact ⟨rfl, rfl⟩
        | cons x xs ih =>
          intro a h
          cases x <;> first | cases h | skip
          rename_i k
          have h : (intsD xs).map (k :: ·) = some a := h
          cases h0 : intsD xs with
          | none => rw [h0] at h; cases h
          | some m =>
            rw [h0] at h
            cases h
            obtain ⟨i1, i2⟩ := ih h0
            refine ⟨?_, ?_⟩
            · show PyData.int k :: D.pys xs = _
              rw [i1]; rfl
            · rw [i2]; rfl
      obtain ⟨i1, i2⟩ := ei h1
      refine ⟨?_, ?_⟩
      · show PyData.tuple (D.pys xs) :: D.pys ds = _
        rw [i1, q1]; rfl
      · rw [i2, q2]; rfl
    · cases e
  | .non :: _, _, e => by cases e
  | .bl _ :: _, _, e => by cases e
  | .int _ :: _, _, e => by cases e
  | .str _ :: _, _, e => by cases e
  | .lst _ :: _, _, e => by cases e
  | .fn _ :: _, _, e => by cases e
  | .emp :: _, _, e => by cases e
  | .scr _ :: _, _, e => by cases e
theorem can_all : ∀ r : List (List Int), PyData.canLayAll0 (r.map pyT) = true
  | [] => rfl
  | a :: r => by
    rw [List.map_cons]
    show (PyData.canLay0 (pyT a) && PyData.canLayAll0 (r.map pyT)) = true
    rw [canT a, can_all r]
    rfl
section
variable {S : Sx} {W : WX} {X : Cx}
theorem call_bi {nm : String} (hK : X.K = S.K) (hc : X.calm = true) (hu : X.A.units + 64 < cLine) : CallR X (.builtin nm) (rBi S W (biD nm)) := by
  intro pins s σ' H xs us Q I rv h
  obtain ⟨F, σ, ρ, rs, R, h1, w⟩ := h
  obtain ⟨ds, t, w0⟩ := looks_inv (k := fun ds => M.opt (biD nm ds)) R h1 w
  clear w
  obtain ⟨z, hz, w⟩ := opt_end w0
  clear w0
  unfold biD at hz
  split at hz
  · rename_i d
    replace t := tops1 t
    obtain ⟨v, rfl, t⟩ := t
    cases hl : lenD d with
    | none => rw [hl] at hz; cases hz
    | some n =>
      rw [hl] at hz
      cases hz
      refine call_len pins s σ' H [v] us Q I rv ⟨v, n, rfl, ?_, put_val R w rfl⟩
      unfold lenD at hl
      split at hl
      · cases hl
        obtain ⟨a, vs, rfl, t, r⟩ := t
        exact .inr ⟨vs, hK ▸ t.seq, reps_length r⟩
      · cases hl
        obtain ⟨a, vs, rfl, t, r⟩ := t
        exact .inl ⟨vs, SqL.of t, reps_length r⟩
      · obtain ⟨k, e⟩ := chk_inv hl
        cases e
        rename_i x
        rw [show v = V.str x from t]
        exact ⟨okLen_le k, rfl⟩
      · cases hl
  · cases hz
    rename_i i
    replace t := tops1 t
    obtain ⟨v, rfl, t⟩ := t
    exact call_abs pins s σ' H [v] us Q I rv ⟨i, by rw [show v = V.int i from t], put_val R w rfl⟩
  · rename_i ds
    replace t := tops1 t
    obtain ⟨v, rfl, t⟩ := t
    obtain ⟨a, vs, rfl, t, r⟩ := t
    cases hb : blsD ds with
    | none => rw [hb] at hz; cases hz
    | some bs =>
      rw [hb] at hz
      cases hz
      exact all_mix hc pins s σ' H [.ref a] us Q I rv ⟨a, bs, _, rfl, SqL.of t, bls_inv hb r, put_val R w rfl⟩
  · rename_i ds
    replace t := tops1 t
    obtain ⟨v, rfl, t⟩ := t
    obtain ⟨a, vs, rfl, t, r⟩ := t
    cases hb : blsD ds with
    | none => rw [hb] at hz; cases hz
    | some bs =>
      rw [hb] at hz
      cases hz
      exact any_mix hc pins s σ' H [.ref a] us Q I rv ⟨a, bs, _, rfl, SqL.of t, bls_inv hb r, put_val R w rfl⟩
  · cases hz
    rename_i b
    replace t := tops1 t
    obtain ⟨v, rfl, t⟩ := t
    have e : v = V.bl b := t
    subst e
    obtain ⟨u, rfl, e⟩ := vals1 rv
    have e : u = Value.bool b := e
    subst e
    exact P.repr_of_bool ⟨.str _, H, I.tok _, ⟨_, rfl⟩, put_val R w rfl⟩
  · rename_i ds
    replace t := tops1 t
    obtain ⟨v, rfl, t⟩ := t
    obtain ⟨a, vs, rfl, t, r⟩ := t
    cases hb : intsD ds with
    | none => rw [hb] at hz; cases hz
    | some bs =>
      rw [hb] at hz
      cases hz
      have e := ints_inv hb r
      subst e
      exact cr_sum hc pins s σ' H [.ref a] us Q I rv ⟨a, bs, rfl, SqL.of t, put_val R w rfl⟩
  · rename_i ds
    replace t := tops1 t
    obtain ⟨v, rfl, t⟩ := t
    obtain ⟨a, vs, rfl, t, r⟩ := t
    cases hb : intsD ds with
    | none => rw [hb] at hz; cases hz
    | some bs =>
      rw [hb] at hz
      cases hz
      have e := ints_inv hb r
      subst e
      exact sum_tup hc pins s σ' H [.ref a] us Q I rv ⟨a, bs, rfl, hK ▸ t.seq, put_val R w rfl⟩
  · rename_i ds
    obtain ⟨k, hz⟩ := chk_inv hz
    replace t := tops1 t
    obtain ⟨v, rfl, t⟩ := t
    obtain ⟨a, vs, rfl, t, r⟩ := t
    cases hb : intsD ds with
    | none => rw [hb] at hz; cases hz
    | some bs =>
      rw [hb] at hz
      cases hz
      have e := ints_inv hb r
      have l := reps_length r
      subst e
      rw [List.length_map] at l
      refine cr_max hc pins s σ' H [.ref a] us Q I rv ⟨a, bs, rfl, SqL.of t, ?_, fun m hm hle => ?_⟩
      · cases ds with
        | nil => cases k
        | cons p q => rw [← l]; exact Nat.succ_pos _
      · rw [← maxI_of hm hle]
        exact put_val R w rfl
  · rename_i ds
    obtain ⟨k, hz⟩ := chk_inv hz
    replace t := tops1 t
    obtain ⟨v, rfl, t⟩ := t
    obtain ⟨a, vs, rfl, t, r⟩ := t
    cases hb : intsD ds with
    | none =>
      rw [hb] at hz
      unfold minO at hz
      simp only at hz
      split at hz
      · rename_i b bs ht
        cases hz
        obtain ⟨q1, q2⟩ := tups_py ht
        refine cr_minT hc hu pins s σ' H [.ref a] us Q I rv ⟨a, vs, b, bs, rfl, SqL.of t, ?_, fun i v ev em => ?_⟩
        · rw [hK, ← q1]
          exact reps_dp ds vs r (by rw [q1]; exact can_all _)
        · have ed : ds[i]? = some (D.tup ((minT b bs).map D.int)) := by
            rw [q2, List.getElem?_map, em]
            rfl
          obtain ⟨v', ev', rp⟩ := reps_get r ed
          rw [ev] at ev'
          cases ev'
          exact put_val R w rp
      · cases hz
    | some bs =>
      rw [hb] at hz
      cases hz
      have e := ints_inv hb r
      have l := reps_length r
      subst e
      rw [List.length_map] at l
      refine cr_min hc pins s σ' H [.ref a] us Q I rv ⟨a, bs, rfl, SqL.of t, ?_, fun m hm hle => ?_⟩
      · cases ds with
        | nil => cases k
        | cons p q => rw [← l]; exact Nat.succ_pos _
      · rw [← minI_of hm hle]
        exact put_val R w rfl
  · cases hz
    rename_i i j
    replace t := tops2 t
    obtain ⟨v, u, rfl, t1, t2⟩ := t
    exact call_max2 hc pins s σ' H [v, u] us Q I rv ⟨i, j, by rw [show v = V.int i from t1, show u = V.int j from t2], put_val R w rfl⟩
  · cases hz
    rename_i i j
    replace t := tops2 t
    obtain ⟨v, u, rfl, t1, t2⟩ := t
    exact call_min2 hc pins s σ' H [v, u] us Q I rv ⟨i, j, by rw [show v = V.int i from t1, show u = V.int j from t2], put_val R w rfl⟩
  · cases hz
theorem call_ty {nm : String} (hK : X.K = S.K) : CallR X (.type nm) (rBi S W (tyD nm)) := by
  intro pins s σ' H xs us Q I rv h
  obtain ⟨F, σ, ρ, rs, R, h1, w⟩ := h
  obtain ⟨ds, t, w0⟩ := looks_inv (k := fun ds => M.opt (tyD nm ds)) R h1 w
  clear w
  obtain ⟨z, hz, w⟩ := opt_end w0
  clear w0
  unfold tyD at hz
  split at hz <;> first | cases hz | skip
  · rename_i i
    replace t := tops1 t
    obtain ⟨v, rfl, t⟩ := t
    exact call_int1 pins s σ' H [v] us Q I rv (.inl ⟨i, by rw [show v = V.int i from t], put_val R w rfl⟩)
  · rename_i i
    replace t := tops1 t
    obtain ⟨v, rfl, t⟩ := t
    exact call_int1 pins s σ' H [v] us Q I rv (.inr ⟨i, by rw [show v = V.bl i from t], put_val R w rfl⟩)
  · rename_i i
    replace t := tops1 t
    obtain ⟨v, rfl, t⟩ := t
    exact call_bool1 pins s σ' H [v] us Q I rv (.inl ⟨i, by rw [show v = V.int i from t], put_val R w rfl⟩)
  · rename_i i
    replace t := tops1 t
    obtain ⟨v, rfl, t⟩ := t
    exact call_bool1 pins s σ' H [v] us Q I rv (.inr ⟨i, by rw [show v = V.bl i from t], put_val R w rfl⟩)
  · replace t := tops1 t
    obtain ⟨v, rfl, t⟩ := t
    obtain ⟨a, vs, rfl, t, r⟩ := t
    exact call_tupZ pins s σ' H [.ref a] us Q I rv ⟨a, vs, rfl, .inr ⟨hK ▸ t.seq, put_val R w ⟨a, vs, rfl, t, r⟩⟩⟩
  · replace t := tops1 t
    obtain ⟨v, rfl, t⟩ := t
    obtain ⟨a, vs, rfl, t, r⟩ := t
    exact call_tupZ pins s σ' H [.ref a] us Q I rv ⟨a, vs, rfl, .inl ⟨SqL.of t, fun p ob n hd => put_tup R w r n hd⟩⟩
  · replace t := tops1 t
    obtain ⟨v, rfl, t⟩ := t
    obtain ⟨a, vs, rfl, t, r⟩ := t
    exact call_list_of pins s σ' H [.ref a] us Q I rv ⟨a, vs, rfl, .inr (hK ▸ t.seq), fun p n => put_lst R w r n⟩
  · replace t := tops1 t
    obtain ⟨v, rfl, t⟩ := t
    obtain ⟨a, vs, rfl, t, r⟩ := t
    exact call_list_of pins s σ' H [.ref a] us Q I rv ⟨a, vs, rfl, .inl (SqL.of t), fun p n => put_lst R w r n⟩
theorem kind_top {F : Fz} {H : Hp} (hK : X.K = S.K) : ∀ {d : D} {v : V} {k : String}, top S F H d v → kindD d = some k → TyX X.K H v (.type k)
  | .non, _, _, h, e => by cases e; rw [show _ = V.non from h]; exact .base .non
  | .bl b, _, _, h, e => by cases e; rw [show _ = V.bl b from h]; exact .base (.bl b)
  | .int b, _, _, h, e => by cases e; rw [show _ = V.int b from h]; exact .base (.int b)
  | .str b, _, _, h, e => by cases e; rw [show _ = V.str b from h]; exact .base (.str b)
  | .tup _, _, _, h, e => by
    cases e
    obtain ⟨a, vs, rfl, t, _⟩ := h
    rcases t with ⟨ob, t, _⟩ | ⟨o, its, n, t, c, _⟩
    · exact .fTuple t
    · exact .kTuple (hK ▸ t) c
  | .lst _, _, _, h, e => by
    cases e
    obtain ⟨a, vs, rfl, t, _⟩ := h
    exact .base (.lst t)
  | .emp, _, _, h, e => by
    cases e
    obtain ⟨a, rfl, _, t⟩ := h
    exact .base (.dK t)
  | .scr _, _, _, h, e => by
    cases e
    obtain ⟨a, rfl, t⟩ := h
    rcases t with ⟨ob, t⟩ | ⟨_, t⟩ | ⟨o, its, n, t, c, _⟩
    · exact .base (.frz t)
    · exact .base (.lst t)
    · exact .kList (hK ▸ t) c
  | .fn _, _, _, _, e => by cases e
theorem isi_kit {d : D} {n : String} {b : Bool} (e : isiD d n = some b) : ∃ k, kindD d = some k ∧ kitB k n = some b := by
  unfold isiD at e
  cases h : kindD d with
  | none => rw [h] at e; cases e
  | some k =>
    rw [h] at e
    refine ⟨k, rfl, ?_⟩
    have hk : k = "NoneType" ∨ k = "bool" ∨ k = "int" ∨ k = "str" ∨ k = "tuple" ∨ k = "list" ∨ k = "dict" := by
      cases d <;> cases h <;> simp
    have hn : n = "int" ∨ n = "bool" ∨ n = "str" ∨ n = "tuple" ∨ n = "list" ∨ n = "dict" := by
      refine Classical.byContradiction fun z => ?_
      simp only [not_or] at z
      obtain ⟨z1, z2, z3, z4, z5, z6⟩ := z
      simp only [z1, z2, z3, z4, z5, z6] at e
      cases e
    rcases hn with rfl | rfl | rfl | rfl | rfl | rfl <;> rcases hk with rfl | rfl | rfl | rfl | rfl | rfl | rfl <;> (cases e; decide +kernel)
theorem call_isiD {a : Expr} {ma : M Rv} {n x : Str} {nm : String} {p p2 pos : Pos} (hK : X.K = S.K) (ha : PE X a (tE S W ma)) (hs : ∀ e' p, a ≠ .Starred e' p) (hg : Gl X "isinstance") (hm : X.mg "isinstance" = none)
    (gx : Gl X x) (mx : X.mg x = none) (bx : bootBuiltins x = some (.type nm)) (n1 : x ≠ "__name__") (n2 : (x == ("__debug__" : Str)) = false) :
    PE X (.Call (.Name "isinstance" p) [a, .Name x p2] [] pos) (tE S W (M.bnd ma fun r => M.bnd (look r) fun d => M.bnd (M.opt (isiD d nm)) fun b => M.ret (rvB b))) := by
  refine PE.sub (pe_callB call_isi hg hm (by decide +kernel) (pa_cons ha (pa_cons (pe_bltn (v := .ty nm) gx mx bx rfl n1 n2) pa_nil (by rfl)) (star_ok hs)) (he := star_ok hs)) fun σ H Q ⟨F, ρ, R, w⟩ => ?_
  refine run_E R w fun r F1 ρ1 H1 v p1 rv nv w => ?_
  obtain ⟨d, e, w⟩ := Wg.look w
  obtain ⟨b, eb, w⟩ := Wg.opt w
  obtain ⟨k, ek, kb⟩ := isi_kit eb
  exact ⟨v, .ty nm, .type k, .type nm, b, rfl, .ty nm, kind_top hK (peek_top p1.rep rv e) ek, kit_ty kb, Wg.now p1.rep w (.bl b) rfl trivial⟩
end
end Pyd
end

section
set_option Elab.async false
set_option linter.all false
set_option maxRecDepth 100000
set_option maxHeartbeats 4000000
/-! Pyd, part F: a result is stored for ever; displays; calls of defs of the text. -/
namespace Pyd
open PySem PySem.Spec L2
open PyProof.Rows hiding St
section
variable {S : Sx} {W : WX} {X : Cx} {σ : St} {F F0 : Fz} {ρ ρ0 : List Sl} {H H0 : Hp} {α β : Type}
/-- .. told from the first state on -/
theorem Wg.bnd0 {m : M α} {k : α → M β} {G : β → Fz → List Sl → Hp → Prop} (h : Wg S W σ F ρ H (M.bnd m k ρ) G) :
    Wg S W σ F ρ H (m ρ) (fun a F1 ρ1 H1 => Wg S W σ F ρ H (k a ρ1) G) := by
  unfold M.bnd at h
  cases e : m ρ with
  | bad => rw [e] at h; exact h
  | exc c x ρ' => rw [e] at h; exact h
  | ok a ρ1 => rw [e] at h; exact fun _ _ _ => h
theorem Wg.shift {out : Out α} {G : α → Fz → List Sl → Hp → Prop} (p : Post S F0 σ ρ0 H0 F σ ρ H) (h : Wg S W σ F0 ρ0 H0 out G) : Wg S W σ F ρ H out G := by
  cases out with
  | ok a ρ' => exact fun F' H' q => h F' H' (p.trans q)
  | exc c x ρ' => exact fun F' H' cls d q => h F' H' cls d (p.trans q)
  | bad => exact h
theorem run_A0 {m : M (List Rv)} {k : List Rv → M β} {G : β → Fz → List Sl → Hp → Prop} {Q : List V → Hp → Prop} (R : SRep S F σ ρ H) (h : Wg S W σ F ρ H (M.bnd m k ρ) G)
    (i : ∀ rs F1 ρ1 H1 vs, Post S F σ ρ H F1 σ ρ1 H1 → RepRs S F1 σ ρ1 H1 rs vs → News H rs vs → Wg S W σ F ρ H (k rs ρ1) G → Q vs H1) : tA S W m σ H Q :=
  ⟨F, ρ, R, h.bnd0.imp fun rs F1 ρ1 H1 p w vs rv nv => i rs F1 ρ1 H1 vs p rv nv w⟩
theorem run_E0 {m : M Rv} {k : Rv → M β} {G : β → Fz → List Sl → Hp → Prop} {Q : VK} (R : SRep S F σ ρ H) (h : Wg S W σ F ρ H (M.bnd m k ρ) G)
    (i : ∀ r F1 ρ1 H1 v, Post S F σ ρ H F1 σ ρ1 H1 → RepR S F1 σ ρ1 H1 r v → New H r v → Wg S W σ F ρ H (k r ρ1) G → Q v H1) : tE S W m σ H Q :=
  ⟨F, ρ, R, h.bnd0.imp fun r F1 ρ1 H1 p w v rv nv => i r F1 ρ1 H1 v p rv nv w⟩
theorem oa_set {i : Nat} {s : Sl} {a : Addr} (h : OA σ (ρ.set i s) a) (hs : ∀ o, s ≠ .own o ∧ s ≠ .bor o) : OA σ ρ a ∧ ∃ j, j ≠ i ∧ OwnAt ρ j ∧ σ[j]? = some (some (.ref a)) := by
  obtain ⟨j, ⟨o, ho⟩, e⟩ := h
  by_cases hj : i = j
  · subst hj
    by_cases hl : i < ρ.length
    · rw [List.getElem?_set_self hl] at ho
      rcases ho with z | z
      · exact absurd (Option.some.inj z) (hs o).1
      · exact absurd (Option.some.inj z) (hs o).2
    · rw [List.getElem?_eq_none (by rw [List.length_set]; omega)] at ho
      rcases ho with z | z <;> cases z
  · rw [List.getElem?_set_ne hj] at ho
    exact ⟨⟨j, ⟨o, ho⟩, e⟩, j, Ne.symm hj, ⟨o, ho⟩, e⟩
/-- more is frozen -/
theorem kp_more {a : Addr} (F : Fz) (H : Hp) : Kp F H (fun x => F x ∨ x = a) H := ⟨fun _ _ _ e => e, fun _ f => .inl f, fun _ _ _ e => e⟩
theorem frz_post {σ0 : St} {r : Rv} {v : V} {d : D} {ρ' : List Sl} (P : Post S F0 σ0 ρ0 H0 F σ ρ H) (h : RepR S F σ ρ H r v) (n : New H0 r v) (e : frz r ρ = .ok d ρ') :
    ∃ F', Post S F0 σ0 ρ0 H0 F' σ ρ' H ∧ rep S F' H d v ∧ Kp F H F' H ∧ (∀ a, F' a → F a ∨ (v = .ref a ∧ (IsOwn r ∨ OA σ ρ a))) ∧ (∀ a, OA σ ρ' a → OA σ ρ a) := by
  have R := P.rep
  have same : frz r ρ = .ok d ρ' → ρ' = ρ → rep S F H d v → ∃ F', Post S F0 σ0 ρ0 H0 F' σ ρ' H ∧ rep S F' H d v ∧ Kp F H F' H ∧ (∀ a, F' a → F a ∨ (v = .ref a ∧ (IsOwn r ∨ OA σ ρ a))) ∧ (∀ a, OA σ ρ' a → OA σ ρ a) := fun _ e q => by
    subst e
    exact ⟨F, P, q, Kp.refl _ _, fun _ f => .inl f, fun _ z => z⟩
  cases r with
  | val d' =>
    have e' : Out.ok d' ρ = Out.ok d ρ' := e
    cases e'
    exact same rfl rfl h
  | own o =>
    have e' : Out.ok o.data ρ = Out.ok d ρ' := e
    cases e'
    obtain ⟨a, rfl, nf, no, q⟩ := h
    cases o with
    | lst ds =>
      obtain ⟨vs, ea, rs⟩ := q
      refine ⟨fun x => F x ∨ x = a, ⟨⟨P.step.keep, fun x f => .inl (P.step.fs x f), fun x f => ?_, P.step.ex⟩, ⟨R.len, fun i s hs => ?_, R.inj, fun x f => ?_, R.tabs⟩, P.oa, P.bor⟩, ⟨a, vs, rfl, .inr rfl, ea, reps_mono (kp_more F H) ds vs rs⟩, kp_more F H, fun x f => f.elim .inl fun z => .inr ⟨by rw [z], .inl trivial⟩, fun _ z => z⟩
      · rcases f with f | f
        · exact P.step.fn x f
        · exact .inr (.inl (f ▸ n a rfl))
      · refine slot_mono (kp_more F H) hs (R.all i s hs) (fun x ox f => ?_) fun x u _ e => e
        rcases f with f | f
        · exact (R.oa ox).1 f
        · exact no (f ▸ ox)
      · rcases f with f | f
        · exact R.fz x f
        · exact .inl ⟨vs, f ▸ ea⟩
  | var i =>
    have hv : σ[i]? = some (some v) := h
    have e0 : (match ρ[i]? with
      | some (.val d) => Out.ok d ρ
      | some (.own o) => Out.ok o.data (ρ.set i (.val o.data))
      | _ => .bad) = Out.ok d ρ' := e
    split at e0
    · rename_i d' hs
      cases e0
      obtain ⟨w, e1, q⟩ := R.all i _ hs
      rw [hv] at e1
      cases e1
      exact same e rfl q
    · rename_i o hs
      cases e0
      obtain ⟨a, e1, nf, q⟩ := R.all i _ hs
      rw [hv] at e1
      cases e1
      cases o with
      | lst ds =>
        obtain ⟨vs, ea, rs⟩ := q
        have oa : OA σ ρ a := ⟨i, ⟨_, .inl hs⟩, hv⟩
        have hi : i < ρ.length := (List.getElem?_eq_some_iff.mp hs).1
        have nob : ∀ o, Sl.val (Ob.lst ds).data ≠ .own o ∧ Sl.val (Ob.lst ds).data ≠ .bor o := fun o => ⟨(fun z => nomatch z), (fun z => nomatch z)⟩
        have own_ne : ∀ j, OwnAt (ρ.set i (.val (Ob.lst ds).data)) j → j ≠ i ∧ OwnAt ρ j := fun j hj => by
          obtain ⟨o, ho⟩ := hj
          by_cases z : i = j
          · subst z
            rw [List.getElem?_set_self hi] at ho
            rcases ho with ho | ho <;> cases ho
          · rw [List.getElem?_set_ne z] at ho
            exact ⟨Ne.symm z, o, ho⟩
        have qd : rep S (fun x => F x ∨ x = a) H (Ob.lst ds).data (.ref a) := ⟨a, vs, rfl, .inr rfl, ea, reps_mono (kp_more F H) ds vs rs⟩
        refine ⟨fun x => F x ∨ x = a, ⟨⟨P.step.keep, fun x f => .inl (P.step.fs x f), fun x f => ?_, P.step.ex⟩, ⟨by rw [List.length_set]; exact R.len, fun j s hj => ?_, fun j l x hj hl => R.inj j l x (own_ne j hj).2 (own_ne l hl).2, fun x f => ?_, R.tabs⟩, fun x ox => P.oa x (oa_set ox nob).1, fun j o hj => ?_⟩, qd, kp_more F H, fun x f => f.elim .inl fun z => .inr ⟨by rw [z], .inr (z ▸ oa)⟩, fun x z => (oa_set z nob).1⟩
        · rcases f with f | f
          · exact P.step.fn x f
          · exact (P.oa a oa).elim (fun z => .inr (.inr (f ▸ z))) fun z => .inr (.inl (f ▸ z))
        · by_cases z : i = j
          · subst z
            rw [List.getElem?_set_self hi] at hj
            cases hj
            exact ⟨.ref a, hv, qd⟩
          · rw [List.getElem?_set_ne z] at hj
            have key : ∀ x, σ[j]? = some (some (.ref x)) → OwnAt ρ j → ¬ (F x ∨ x = a) := fun x ex oj f => by
              rcases f with f | f
              · exact (R.oa ⟨j, oj, ex⟩).1 f
              · exact z (R.inj i j a ⟨_, .inl hs⟩ oj hv (f ▸ ex))
            have q := R.all j s hj
            cases s with
            | emp => trivial
            | val d' =>
              obtain ⟨w, e1, q⟩ := q
              exact ⟨w, e1, rep_mono (kp_more F H) d' w q⟩
            | own o =>
              obtain ⟨x, e1, _, q⟩ := q
              exact ⟨x, e1, key x e1 ⟨o, .inl hj⟩, obj_mono (kp_more F H) q fun u e => e⟩
            | bor o =>
              obtain ⟨x, e1, _, q⟩ := q
              exact ⟨x, e1, key x e1 ⟨o, .inr hj⟩, obj_mono (kp_more F H) q fun u e => e⟩
        · rcases f with f | f
          · exact R.fz x f
          · exact .inl ⟨vs, f ▸ ea⟩
        · obtain ⟨o', h1, h2⟩ := P.bor j o hj
          have z : i ≠ j := fun z => by
            subst z
            rw [hs] at h1
            cases h1
          exact ⟨o', by rw [List.getElem?_set_ne z]; exact h1, h2⟩
    · cases e0
/-- results behind one that was frozen -/
theorem RepRs.frz {r : Rv} {v : V} {F' : Fz} {ρ' : List Sl} (kp : Kp F H F' H) (hF : ∀ a, F' a → F a ∨ (v = .ref a ∧ (IsOwn r ∨ OA σ ρ a))) (hO : ∀ a, OA σ ρ' a → OA σ ρ a) :
    ∀ {rs : List Rv} {vs : List V}, (IsOwn r → ∀ (j : Nat) r' v', rs[j]? = some r' → vs[j]? = some v' → IsOwn r' → v' ≠ v) → RepRs S F σ ρ H rs vs → RepRs S F' σ ρ' H rs vs
  | [], _, _, h => h
  | r' :: rs, _, sep, h => by
    obtain ⟨v', us, rfl, h1, h2, h3⟩ := h
    refine ⟨v', us, rfl, ?_, RepRs.frz kp hF hO (fun o j r v e1 e2 => sep o (j + 1) r v (by simpa using e1) (by simpa using e2)) h2, h3⟩
    cases r' with
    | val d => exact rep_mono kp d v' h1
    | var i => exact h1
    | own o =>
      obtain ⟨a, e, nf, no, q⟩ := h1
      refine ⟨a, e, fun f => ?_, fun z => no (hO a z), obj_mono kp q fun u e => e⟩
      rcases hF a f with f | ⟨z, y | y⟩
      · exact nf f
      · exact sep y 0 _ _ rfl rfl trivial (e.trans z.symm)
      · exact no y
theorem frzs_cons {r : Rv} {rs : List Rv} {ρ ρ' : List Sl} {ds : List D} (e : frzs (r :: rs) ρ = .ok ds ρ') : ∃ d ρ1 es, frz r ρ = .ok d ρ1 ∧ frzs rs ρ1 = .ok es ρ' ∧ ds = d :: es := by
  have e : M.bnd (Pyd.frz r) (fun d => M.bnd (frzs rs) fun ds => M.ret (d :: ds)) ρ = .ok ds ρ' := e
  unfold M.bnd at e
  cases h : Pyd.frz r ρ with
  | bad => rw [h] at e; cases e
  | exc c x ρ' => rw [h] at e; cases e
  | ok d ρ1 =>
    rw [h] at e
    simp only at e
    cases h2 : frzs rs ρ1 with
    | bad => rw [h2] at e; cases e
    | exc c x ρ' => rw [h2] at e; cases e
    | ok es ρ2 =>
      rw [h2] at e
      cases e
      exact ⟨d, ρ1, es, rfl, h2, rfl⟩
theorem frzs_post {σ0 : St} : ∀ {rs : List Rv} {vs : List V} {F : Fz} {ρ ρ' : List Sl} {ds : List D}, Post S F0 σ0 ρ0 H0 F σ ρ H → RepRs S F σ ρ H rs vs → News H0 rs vs → frzs rs ρ = .ok ds ρ' → ∃ F', Post S F0 σ0 ρ0 H0 F' σ ρ' H ∧ reps S F' H ds vs ∧ Kp F H F' H
  | [], _, F, ρ, ρ', ds, P, h, _, e => by
    have e : Out.ok [] ρ = Out.ok ds ρ' := e
    cases e
    exact ⟨F, P, h, Kp.refl _ _⟩
  | r :: rs, _, F, ρ, ρ', ds, P, h, n, e => by
    obtain ⟨v, us, rfl, h1, h2, sep⟩ := h
    obtain ⟨d, ρ1, es, e1, e2, rfl⟩ := frzs_cons e
    obtain ⟨F1, P1, q1, k1, hF, hO⟩ := frz_post P h1 n.1 e1
    obtain ⟨F2, P2, q2, k2⟩ := frzs_post P1 (RepRs.frz k1 hF hO sep h2) n.2 e2
    exact ⟨F2, P2, ⟨v, us, rfl, rep_mono k2 d v q1, q2⟩, ⟨fun a ob u e => e, fun a f => k2.fs a (k1.fs a f), fun a o f e => e⟩⟩
theorem bnd_ok {m : M α} {k : α → M β} {G : β → Fz → List Sl → Hp → Prop} (h : Wg S W σ F ρ H (M.bnd m k ρ0) G) (ne : ∀ c x ρ', m ρ0 ≠ .exc c x ρ') : ∃ a ρ1, m ρ0 = .ok a ρ1 ∧ Wg S W σ F ρ H (k a ρ1) G := by
  unfold M.bnd at h
  cases e : m ρ0 with
  | bad => rw [e] at h; exact h.elim
  | exc c x ρ' => exact (ne c x ρ' e).elim
  | ok a ρ1 => rw [e] at h; exact ⟨a, ρ1, rfl, h⟩
theorem frz_noexc {r : Rv} {ρ : List Sl} : ∀ c x ρ', Pyd.frz r ρ ≠ .exc c x ρ' := fun c x ρ' e => by
  cases r with
  | val d => cases (show Out.ok d ρ = Out.exc c x ρ' from e)
  | own o => cases (show Out.ok o.data ρ = Out.exc c x ρ' from e)
  | var i =>
    have e : (match ρ[i]? with
      | some (.val d) => Out.ok d ρ
      | some (.own o) => Out.ok o.data (ρ.set i (.val o.data))
      | _ => .bad) = Out.exc c x ρ' := e
    split at e <;> cases e
theorem frzs_noexc : ∀ {rs : List Rv} {ρ : List Sl}, ∀ c x ρ', frzs rs ρ ≠ .exc c x ρ'
  | [], ρ, c, x, ρ', e => by cases (show Out.ok [] ρ = Out.exc c x ρ' from e)
  | r :: rs, ρ, c, x, ρ', e => by
    have e : M.bnd (Pyd.frz r) (fun d => M.bnd (frzs rs) fun ds => M.ret (d :: ds)) ρ = .exc c x ρ' := e
    unfold M.bnd at e
    cases h : Pyd.frz r ρ with
    | bad => rw [h] at e; cases e
    | exc c x ρ' => exact frz_noexc _ _ _ h
    | ok d ρ1 =>
      rw [h] at e
      simp only at e
      cases h2 : frzs rs ρ1 with
      | bad => rw [h2] at e; cases e
      | exc c x ρ' => exact frzs_noexc _ _ _ h2
      | ok es ρ2 => rw [h2] at e; cases e
/-! ### displays -/
theorem guard_inv {b : Bool} {m : M α} {G : α → Fz → List Sl → Hp → Prop} (h : Wg S W σ F ρ H (M.guard b m ρ0) G) : b = true ∧ Wg S W σ F ρ H (m ρ0) G := by
  cases b with
  | true => exact ⟨rfl, h⟩
  | false => exact h.elim
theorem pe_evTup {f : Expr → M Rv} {es : List Expr} {k : Nat} {pos : Pos} (h : ∀ e ∈ es, PE X e (tE S W (f e))) : PE X (.Tuple es k pos) (tE S W (evTup f es)) := by
  refine PE.sub (pe_tupZ (pa_ev h)) fun σ H Q ⟨F, ρ, R, w⟩ => ?_
  refine run_A0 R w fun rs F1 ρ1 H1 vs P rvs nvs w => ?_
  obtain ⟨ds, ρ2, e, w⟩ := bnd_ok w frzs_noexc
  obtain ⟨F2, P2, q, _⟩ := frzs_post P rvs nvs e
  obtain ⟨k, w⟩ := guard_inv w
  refine ⟨by rw [← reps_length q]; exact okLen_le k, fun p ob n hd => ?_⟩
  exact w F2 _ (P2.trans (post_new P2.rep n)) (.ref p) (rep_tupNew n q hd) trivial
theorem pe_evLst {f : Expr → M Rv} {es : List Expr} {pos : Pos} (h : ∀ e ∈ es, PE X e (tE S W (f e))) : PE X (.List es pos) (tE S W (evLst f es)) := by
  refine PE.sub (pe_lst (pa_ev h)) fun σ H Q ⟨F, ρ, R, w⟩ => ?_
  refine run_A0 R w fun rs F1 ρ1 H1 vs P rvs nvs w => ?_
  obtain ⟨ds, ρ2, e, w⟩ := bnd_ok w frzs_noexc
  obtain ⟨F2, P2, q, _⟩ := frzs_post P rvs nvs e
  obtain ⟨k, w⟩ := guard_inv w
  refine ⟨by rw [← reps_length q]; exact okLen_le k, fun p n => ?_⟩
  exact w F2 _ (P2.trans (post_new P2.rep n)) (.ref p) (own_lstNew P2.rep n q) (fun a e => by
    cases e
    exact P2.step.none (Nn.of n))
end
end Pyd
end

section
set_option Elab.async false
set_option linter.all false
set_option maxRecDepth 100000
set_option maxHeartbeats 4000000
/-! Pyd, part G: a def of the text is called: what is handed on, what is lent and comes back. -/
namespace Pyd
open PySem PySem.Spec L2
open PyProof.Rows hiding St
section
variable {S : Sx} {W : WX} {X : Cx} {σ : St} {F F0 : Fz} {ρ ρ0 : List Sl} {H H0 : Hp} {α β : Type}
def ArgR (S : Sx) (F : Fz) (σ : St) (ρ : List Sl) (H : Hp) (flag : Bool) (r : Rv) (v : V) (s : Sl) : Prop :=
  (∃ d, s = .val d ∧ rep S F H d v) ∨
    (flag = true ∧ ∃ i o a, r = .var i ∧ s = .bor o ∧ v = .ref a ∧ σ[i]? = some (some (.ref a)) ∧ obj S F H o a) ∨
      ∃ o a, r = .own o ∧ s = .bor o ∧ v = .ref a ∧ ¬ F a ∧ ¬ OA σ ρ a ∧ obj S F H o a
def ArgsR (S : Sx) (F : Fz) (σ : St) (ρ : List Sl) (H : Hp) : List Bool → List Rv → List V → List Sl → Prop
  | _, [], vs, ss => vs = [] ∧ ss = []
  | fs, r :: rs, vs, ss => ∃ v us s ts, vs = v :: us ∧ ss = s :: ts ∧ ArgR S F σ ρ H (fs.headD false) r v s ∧ ArgsR S F σ ρ H fs.tail rs us ts
theorem argsOf_eq {fs : List Bool} {r : Rv} {rs : List Rv} : argsOf fs (r :: rs) = M.bnd (argOf (fs.headD false) r) fun s => M.bnd (argsOf fs.tail rs) fun ss => M.ret (s :: ss) := by
  cases fs <;> rfl
theorem bnd_eq_ok {m : M α} {k : α → M β} {b : β} {ρ ρ' : List Sl} (e : M.bnd m k ρ = .ok b ρ') : ∃ a ρ1, m ρ = .ok a ρ1 ∧ k a ρ1 = .ok b ρ' := by
  unfold M.bnd at e
  cases h : m ρ with
  | bad => rw [h] at e; cases e
  | exc c x ρ' => rw [h] at e; cases e
  | ok a ρ1 => rw [h] at e; exact ⟨a, ρ1, rfl, e⟩
theorem bnd_eq_exc {m : M α} {k : α → M β} {c : Str} {x : Option D} {ρ ρ' : List Sl} (e : M.bnd m k ρ = .exc c x ρ') : m ρ = .exc c x ρ' ∨ ∃ a ρ1, m ρ = .ok a ρ1 ∧ k a ρ1 = .exc c x ρ' := by
  unfold M.bnd at e
  cases h : m ρ with
  | bad => rw [h] at e; cases e
  | exc c x ρ' => rw [h] at e; cases e; exact .inl rfl
  | ok a ρ1 => rw [h] at e; exact .inr ⟨a, ρ1, rfl, e⟩
theorem arg_noexc {f : Bool} {r : Rv} {ρ : List Sl} : ∀ c x ρ', argOf f r ρ ≠ .exc c x ρ' := fun c x ρ' e => by
  cases f with
  | false =>
    have e : M.bnd (frz r) (fun d => M.ret (Sl.val d)) ρ = .exc c x ρ' := e
    rcases bnd_eq_exc e with e | ⟨a, ρ1, _, e⟩
    · exact frz_noexc _ _ _ e
    · cases e
  | true =>
    cases r with
    | val d => cases (show Out.ok (Sl.val d) ρ = Out.exc c x ρ' from e)
    | own o => cases (show Out.ok (Sl.bor o) ρ = Out.exc c x ρ' from e)
    | var i =>
      have e : (match ρ[i]? with
        | some (.val d) => Out.ok (Sl.val d) ρ
        | some (.own o) => Out.ok (Sl.bor o) ρ
        | some (.bor o) => Out.ok (Sl.bor o) ρ
        | _ => .bad) = Out.exc c x ρ' := e
      split at e <;> cases e
theorem args_noexc : ∀ {rs : List Rv} {fs : List Bool} {ρ : List Sl}, ∀ c x ρ', argsOf fs rs ρ ≠ .exc c x ρ'
  | [], fs, ρ, c, x, ρ', e => by cases fs <;> cases (show Out.ok [] ρ = Out.exc c x ρ' from e)
  | r :: rs, fs, ρ, c, x, ρ', e => by
    rw [argsOf_eq] at e
    rcases bnd_eq_exc e with e | ⟨a, ρ1, _, e⟩
    · exact arg_noexc _ _ _ e
    · rcases bnd_eq_exc e with e | ⟨a, ρ1, _, e⟩
      · exact args_noexc _ _ _ e
      · cases e
theorem arg_post {flag : Bool} {r : Rv} {v : V} {s : Sl} {ρ' : List Sl} (P : Post S F0 σ ρ0 H0 F σ ρ H) (h : RepR S F σ ρ H r v) (n : New H0 r v) (e : argOf flag r ρ = .ok s ρ') :
    ∃ F', Post S F0 σ ρ0 H0 F' σ ρ' H ∧ Kp F H F' H ∧ ArgR S F' σ ρ' H flag r v s ∧ (∀ a, F' a → F a ∨ (s = .val (match s with | .val d => d | _ => .non) ∧ v = .ref a ∧ (IsOwn r ∨ OA σ ρ a))) ∧ (∀ a, OA σ ρ' a → OA σ ρ a) := by
  have stay : ρ' = ρ → ArgR S F σ ρ H flag r v s → ∃ F', Post S F0 σ ρ0 H0 F' σ ρ' H ∧ Kp F H F' H ∧ ArgR S F' σ ρ' H flag r v s ∧ (∀ a, F' a → F a ∨ (s = .val (match s with | .val d => d | _ => .non) ∧ v = .ref a ∧ (IsOwn r ∨ OA σ ρ a))) ∧ (∀ a, OA σ ρ' a → OA σ ρ a) := fun e q => by
    subst e
    exact ⟨F, P, Kp.refl _ _, q, fun _ f => .inl f, fun _ z => z⟩
  cases flag with
  | false =>
    have e : M.bnd (frz r) (fun d => M.ret (Sl.val d)) ρ = .ok s ρ' := e
    obtain ⟨d, ρ1, e1, e2⟩ := bnd_eq_ok e
    cases e2
    obtain ⟨F', P', q, k, hF, hO⟩ := frz_post P h n e1
    exact ⟨F', P', k, .inl ⟨d, rfl, q⟩, fun a f => (hF a f).imp id fun z => ⟨rfl, z⟩, hO⟩
  | true =>
    cases r with
    | val d =>
      have e : Out.ok (Sl.val d) ρ = Out.ok s ρ' := e
      cases e
      exact stay rfl (.inl ⟨d, rfl, h⟩)
    | own o =>
      have e : Out.ok (Sl.bor o) ρ = Out.ok s ρ' := e
      cases e
      obtain ⟨a, ea, nf, no, q⟩ := h
      exact stay rfl (.inr (.inr ⟨o, a, rfl, rfl, ea, nf, no, q⟩))
    | var i =>
      have hv : σ[i]? = some (some v) := h
      have e : (match ρ[i]? with
        | some (.val d) => Out.ok (Sl.val d) ρ
        | some (.own o) => Out.ok (Sl.bor o) ρ
        | some (.bor o) => Out.ok (Sl.bor o) ρ
        | _ => .bad) = Out.ok s ρ' := e
      split at e
      · rename_i d hs
        cases e
        obtain ⟨w, e1, q⟩ := P.rep.all i _ hs
        rw [hv] at e1
        cases e1
        exact stay rfl (.inl ⟨d, rfl, q⟩)
      · rename_i o hs
        cases e
        obtain ⟨a, e1, _, q⟩ := P.rep.all i _ hs
        rw [hv] at e1
        cases e1
        exact stay rfl (.inr (.inl ⟨rfl, i, o, a, rfl, rfl, rfl, hv, q⟩))
      · rename_i o hs
        cases e
        obtain ⟨a, e1, _, q⟩ := P.rep.all i _ hs
        rw [hv] at e1
        cases e1
        exact stay rfl (.inr (.inl ⟨rfl, i, o, a, rfl, rfl, rfl, hv, q⟩))
      · cases e
theorem ArgR.mono {F' : Fz} {ρ' : List Sl} {flag : Bool} {r : Rv} {v : V} {s : Sl} (k : Kp F H F' H) (h : ArgR S F σ ρ H flag r v s) (nf : ∀ a, IsOwn r → (∀ d, s ≠ .val d) → v = .ref a → ¬ F a → ¬ F' a) (hO : ∀ a, OA σ ρ' a → OA σ ρ a) : ArgR S F' σ ρ' H flag r v s := by
  rcases h with ⟨d, e, q⟩ | ⟨e, i, o, a, e1, e2, e3, e4, q⟩ | ⟨o, a, e1, e2, e3, f, no, q⟩
  · exact .inl ⟨d, e, rep_mono k d v q⟩
  · exact .inr (.inl ⟨e, i, o, a, e1, e2, e3, e4, obj_mono k q fun u e => e⟩)
  · exact .inr (.inr ⟨o, a, e1, e2, e3, nf a (by rw [e1]; trivial) (fun d z => by rw [e2] at z; cases z) e3 f, fun z => no (hO a z), obj_mono k q fun u e => e⟩)
/-- all arguments -/
theorem args_post : ∀ {rs : List Rv} {fs : List Bool} {vs : List V} {F : Fz} {ρ ρ' : List Sl} {ss : List Sl}, Post S F0 σ ρ0 H0 F σ ρ H → RepRs S F σ ρ H rs vs → News H0 rs vs → argsOf fs rs ρ = .ok ss ρ' →
    ∃ F', Post S F0 σ ρ0 H0 F' σ ρ' H ∧ Kp F H F' H ∧ ArgsR S F' σ ρ' H fs rs vs ss ∧ (∀ a, F' a → F a ∨ OA σ ρ a ∨ ∃ (j : Nat) (r' : Rv) (v' : V), rs[j]? = some r' ∧ vs[j]? = some v' ∧ IsOwn r' ∧ v' = .ref a) ∧ (∀ a, OA σ ρ' a → OA σ ρ a)
  | [], fs, vs, F, ρ, ρ', ss, P, h, _, e => by
    have e : Out.ok [] ρ = Out.ok ss ρ' := by cases fs <;> exact e
    cases e
    exact ⟨F, P, Kp.refl _ _, ⟨h, rfl⟩, fun _ f => .inl f, fun _ z => z⟩
  | r :: rs, fs, _, F, ρ, ρ', ss, P, h, n, e => by
    obtain ⟨v, us, rfl, h1, h2, sep⟩ := h
    rw [argsOf_eq] at e
    obtain ⟨s, ρ1, e1, e⟩ := bnd_eq_ok e
    obtain ⟨ts, ρ2, e2, e⟩ := bnd_eq_ok e
    cases e
    obtain ⟨F1, P1, k1, q1, hF1, hO1⟩ := arg_post P h1 n.1 e1
    have h2' := RepRs.frz k1 (fun a f => (hF1 a f).imp id fun z => z.2) hO1 sep h2
    obtain ⟨F2, P2, k2, q2, hF2, hO2⟩ := args_post P1 h2' n.2 e2
    refine ⟨F2, P2, ⟨fun a ob u e => e, fun a f => k2.fs a (k1.fs a f), fun a o f e => e⟩, ⟨v, us, s, ts, rfl, rfl, q1.mono k2 (fun a io nv ev nf f => ?_) hO2, q2⟩, fun a f => ?_, fun a z => hO1 a (hO2 a z)⟩
    · rcases hF2 a f with z | z | ⟨j, r', v', y1, y2, y3, y4⟩
      · exact nf z
      · cases r with
        | val _ => exact io.elim
        | var _ => exact io.elim
        | own o =>
          obtain ⟨b, eb, _, no, _⟩ := h1
          rw [ev] at eb
          cases eb
          exact no (hO1 _ z)
      · exact sep io j r' v' y1 y2 y3 (y4.trans ev.symm)
    · rcases hF2 a f with z | z | ⟨j, r', v', y1, y2, y3, y4⟩
      · rcases hF1 a z with y | ⟨_, y, y' | y'⟩
        · exact .inl y
        · exact .inr (.inr ⟨0, r, v, rfl, rfl, y', y⟩)
        · exact .inr (.inl y')
      · exact .inr (.inl (hO1 a z))
      · exact .inr (.inr ⟨j + 1, r', v', by simpa using y1, by simpa using y2, y3, y4⟩)
theorem args_len : ∀ {rs : List Rv} {fs : List Bool} {vs : List V} {ss : List Sl}, ArgsR S F σ ρ H fs rs vs ss → vs.length = rs.length ∧ ss.length = rs.length
  | [], _, _, _, h => by rw [h.1, h.2]; exact ⟨rfl, rfl⟩
  | r :: rs, fs, _, _, h => by
    obtain ⟨v, us, s, ts, rfl, rfl, _, h2⟩ := h
    have := args_len h2
    simp [this]
theorem args_get : ∀ {rs : List Rv} {fs : List Bool} {vs : List V} {ss : List Sl} {j : Nat} {s : Sl}, ArgsR S F σ ρ H fs rs vs ss → ss[j]? = some s → ∃ r v, rs[j]? = some r ∧ vs[j]? = some v ∧ ArgR S F σ ρ H (fs.getD j false) r v s
  | [], _, _, _, j, s, h, e => by rw [h.2] at e; simp at e
  | r :: rs, fs, _, _, j, s, h, e => by
    obtain ⟨v, us, s', ts, rfl, rfl, q, h2⟩ := h
    cases j with
    | zero =>
      have e : s' = s := by simpa using e
      subst e
      refine ⟨r, v, rfl, rfl, ?_⟩
      cases fs <;> exact q
    | succ j =>
      obtain ⟨r', v', e1, e2, q'⟩ := args_get (j := j) h2 (by simpa using e)
      refine ⟨r', v', by simpa using e1, by simpa using e2, ?_⟩
      cases fs with
      | nil => simpa using q'
      | cons f fs => simpa using q'
/-- the places that are lent, by position -/
theorem lent_mem : ∀ {rs : List Rv} {fs : List Bool} {j i : Nat}, fs.getD j false = true → rs[j]? = some (.var i) → i ∈ lent fs rs
  | [], _, _, _, _, e => by simp at e
  | r :: rs, [], j, i, h, _ => by simp at h
  | r :: rs, f :: fs, 0, i, h, e => by
    have h : f = true := by simpa using h
    have e : r = .var i := by simpa using e
    subst h
    subst e
    exact List.mem_cons_self
  | r :: rs, f :: fs, j + 1, i, h, e => by
    have q := lent_mem (rs := rs) (fs := fs) (j := j) (i := i) (by simpa using h) (by simpa using e)
    cases f with
    | false => exact q
    | true => cases r <;> first | exact q | exact List.mem_cons_of_mem _ q
theorem lent_inj : ∀ {rs : List Rv} {fs : List Bool} {j l i : Nat}, (lent fs rs).Nodup → fs.getD j false = true → fs.getD l false = true → rs[j]? = some (.var i) → rs[l]? = some (.var i) → j = l
  | [], _, _, _, _, _, _, _, e, _ => by simp at e
  | r :: rs, [], _, _, _, _, h, _, _, _ => by simp at h
  | r :: rs, f :: fs, 0, 0, _, _, _, _, _, _ => rfl
  | r :: rs, f :: fs, 0, l + 1, i, nd, h1, h2, e1, e2 => by
    have h : f = true := by simpa using h1
    have e : r = .var i := by simpa using e1
    subst h
    subst e
    exact absurd (lent_mem (by simpa using h2) (by simpa using e2)) (List.nodup_cons.mp nd).1
  | r :: rs, f :: fs, j + 1, 0, i, nd, h1, h2, e1, e2 => by
    have h : f = true := by simpa using h2
    have e : r = .var i := by simpa using e2
    subst h
    subst e
    exact absurd (lent_mem (by simpa using h1) (by simpa using e1)) (List.nodup_cons.mp nd).1
  | r :: rs, f :: fs, j + 1, l + 1, i, nd, h1, h2, e1, e2 => by
    have nd' : (lent fs rs).Nodup := by
      cases f with
      | false => exact nd
      | true => cases r <;> first | exact nd | exact (List.nodup_cons.mp nd).2
    exact congrArg (· + 1) (lent_inj (rs := rs) (fs := fs) (j := j) (l := l) (i := i) nd' (by simpa using h1) (by simpa using h2) (by simpa using e1) (by simpa using e2))
theorem own_of {i : Nat} (h : ownSl ρ[i]? = true) : OwnAt ρ i := by
  unfold ownSl at h
  split at h
  · rename_i o e; exact ⟨o, .inl e⟩
  · rename_i o e; exact ⟨o, .inr e⟩
  · cases h
/-- the callee's slots -/
theorem callee_rep {rs : List Rv} {fs : List Bool} {vs : List V} {ss : List Sl} (R : SRep S F σ ρ H) (h : ArgsR S F σ ρ H fs rs vs ss) (nd : (lent fs rs).Nodup) (lo : (lent fs rs).all (fun i => ownSl ρ[i]?) = true)
    (sep : ∀ (j l : Nat) (r r' : Rv) (v v' : V), j ≠ l → rs[j]? = some r → rs[l]? = some r' → vs[j]? = some v → vs[l]? = some v' → IsOwn r → IsOwn r' → v ≠ v') : SRep S F (vs.map some) ss H where
  len := by rw [List.length_map, (args_len h).1, (args_len h).2]
  all := fun j s e => by
    obtain ⟨r, v, e1, e2, q⟩ := args_get h e
    have ev : (vs.map some)[j]? = some (some v) := by rw [List.getElem?_map, e2]; rfl
    rcases q with ⟨d, rfl, q⟩ | ⟨fl, i, o, a, rfl, rfl, rfl, hs, q⟩ | ⟨o, a, rfl, rfl, rfl, nf, no, q⟩
    · exact ⟨v, ev, q⟩
    · have ow : OwnAt ρ i := own_of (List.all_eq_true.mp lo i (lent_mem fl e1))
      exact ⟨a, ev, (R.oa ⟨i, ow, hs⟩).1, q⟩
    · exact ⟨a, ev, nf, q⟩
  inj := fun j l a oj ol ej el => by
    have get : ∀ {j}, OwnAt ss j → (vs.map some)[j]? = some (some (.ref a)) → ∃ r, rs[j]? = some r ∧ vs[j]? = some (.ref a) ∧ ((fs.getD j false = true ∧ ∃ i, r = .var i ∧ OwnAt ρ i ∧ σ[i]? = some (some (.ref a))) ∨ (IsOwn r ∧ ¬ OA σ ρ a)) := fun {j} oj ej => by
      obtain ⟨o, ho⟩ := oj
      have ej' : vs[j]? = some (.ref a) := by
        rw [List.getElem?_map] at ej
        cases h : vs[j]? with
        | none => rw [h] at ej; cases ej
        | some w => rw [h] at ej; cases ej; rfl
      rcases ho with ho | ho
      · obtain ⟨r, v, e1, e2, q⟩ := args_get h ho
        rcases q with ⟨d, z, _⟩ | ⟨_, _, _, _, _, z, _⟩ | ⟨_, _, _, z, _⟩ <;> cases z
      · obtain ⟨r, v, e1, e2, q⟩ := args_get h ho
        rw [ej'] at e2
        cases e2
        refine ⟨r, e1, ej', ?_⟩
        rcases q with ⟨d, z, _⟩ | ⟨fl, i, o', b, rfl, _, eb, hs, q⟩ | ⟨o', b, rfl, _, eb, nf, no, q⟩
        · cases z
        · cases eb
          exact .inl ⟨fl, i, rfl, own_of (List.all_eq_true.mp lo i (lent_mem fl e1)), hs⟩
        · cases eb
          exact .inr ⟨trivial, no⟩
    obtain ⟨r, e1, v1, q1⟩ := get oj ej
    obtain ⟨r', e2, v2, q2⟩ := get ol el
    rcases q1 with ⟨f1, i, rfl, o1, s1⟩ | ⟨w1, n1⟩
    · rcases q2 with ⟨f2, i', rfl, o2, s2⟩ | ⟨w2, n2⟩
      · have ei := R.inj i i' a o1 o2 s1 s2
        subst ei
        exact lent_inj nd f1 f2 e1 e2
      · exact absurd ⟨i, o1, s1⟩ n2
    · rcases q2 with ⟨f2, i', rfl, o2, s2⟩ | ⟨w2, n2⟩
      · exact absurd ⟨i', o2, s2⟩ n1
      · refine Classical.byContradiction fun z => ?_
        exact sep j l r r' _ _ z e1 e2 v1 v2 w1 w2 rfl
  fz := R.fz
  tabs := R.tabs
/-- what the callee may touch is what was lent, or is new -/
theorem callee_oa {rs : List Rv} {fs : List Bool} {vs : List V} {ss : List Sl} {a : Addr} (h : ArgsR S F σ ρ H fs rs vs ss) (n : News H0 rs vs) (lo : (lent fs rs).all (fun i => ownSl ρ[i]?) = true) (oc : OA (vs.map some) ss a) :
    (∃ (j i : Nat) (o : Ob), fs.getD j false = true ∧ rs[j]? = some (.var i) ∧ ss[j]? = some (.bor o) ∧ OwnAt ρ i ∧ σ[i]? = some (some (.ref a))) ∨ (Nn H0 a ∧ ¬ OA σ ρ a) := by
  obtain ⟨j, ⟨o, ho⟩, ej⟩ := oc
  have ej' : vs[j]? = some (.ref a) := by
    rw [List.getElem?_map] at ej
    cases h : vs[j]? with
    | none => rw [h] at ej; cases ej
    | some w => rw [h] at ej; cases ej; rfl
  rcases ho with ho | ho
  · obtain ⟨r, v, e1, e2, q⟩ := args_get h ho
    rcases q with ⟨d, z, _⟩ | ⟨_, _, _, _, _, z, _⟩ | ⟨_, _, _, z, _⟩ <;> cases z
  · obtain ⟨r, v, e1, e2, q⟩ := args_get h ho
    rw [ej'] at e2
    cases e2
    rcases q with ⟨d, z, _⟩ | ⟨fl, i, o', b, rfl, _, eb, hs, q⟩ | ⟨o', b, rfl, _, eb, nf, no, q⟩
    · cases z
    · cases eb
      exact .inl ⟨j, i, o, fl, e1, ho, own_of (List.all_eq_true.mp lo i (lent_mem fl e1)), hs⟩
    · cases eb
      exact .inr ⟨news_own n e1 ej' trivial a rfl, no⟩
/-! ### what was lent comes back -/
/-- a frame's slots, but for those at the places L whose data are still to come -/
structure SRepP (S : Sx) (L : List Nat) (F : Fz) (σ : St) (ρ : List Sl) (H : Hp) : Prop where
  len : σ.length = ρ.length
  all : ∀ i s, i ∉ L → ρ[i]? = some s → SlotAt S F H σ i s
  own : ∀ i, OwnAt ρ i → ∃ a, σ[i]? = some (some (.ref a)) ∧ ¬ F a
  inj : ∀ i j a, OwnAt ρ i → OwnAt ρ j → σ[i]? = some (some (.ref a)) → σ[j]? = some (some (.ref a)) → i = j
  fz : ∀ a, F a → (∃ vs, H a = some (.lst vs)) ∨ H a = some (.dK [])
  tabs : LamX.Tabs S.T H
theorem SRepP.done (h : SRepP S [] F σ ρ H) : SRep S F σ ρ H := ⟨h.len, fun i s e => h.all i s (by simp) e, h.inj, h.fz, h.tabs⟩
/-- a slot of an object turned into one with other data -/
def putOb (ρ : List Sl) (i : Nat) (o : Ob) : List Sl := match ρ[i]? with
  | some (.own _) => ρ.set i (.own o)
  | some (.bor _) => ρ.set i (.bor o)
  | _ => ρ
theorem putOb_len {i : Nat} {o : Ob} : (putOb ρ i o).length = ρ.length := by
  unfold putOb
  split <;> simp
theorem putOb_ne {i j : Nat} {o : Ob} (h : j ≠ i) : (putOb ρ i o)[j]? = ρ[j]? := by
  unfold putOb
  split <;> first | rfl | rw [List.getElem?_set_ne (Ne.symm h)]
theorem putOb_own {i j : Nat} {o : Ob} : OwnAt (putOb ρ i o) j ↔ OwnAt ρ j := by
  by_cases h : j = i
  · subst h
    unfold putOb
    split
    · rename_i o' e
      have hl : j < ρ.length := (List.getElem?_eq_some_iff.mp e).1
      exact ⟨fun _ => ⟨o', .inl e⟩, fun _ => ⟨o, .inl (List.getElem?_set_self hl)⟩⟩
    · rename_i o' e
      have hl : j < ρ.length := (List.getElem?_eq_some_iff.mp e).1
      exact ⟨fun _ => ⟨o', .inr e⟩, fun _ => ⟨o, .inr (List.getElem?_set_self hl)⟩⟩
    · exact Iff.rfl
  · unfold OwnAt
    rw [putOb_ne h]
theorem putOb_at {i : Nat} {o : Ob} (h : OwnAt ρ i) : (putOb ρ i o)[i]? = some (.own o) ∨ (putOb ρ i o)[i]? = some (.bor o) := by
  obtain ⟨o', h⟩ := h
  rcases h with e | e
  · have hl : i < ρ.length := (List.getElem?_eq_some_iff.mp e).1
    unfold putOb
    rw [e]
    exact .inl (List.getElem?_set_self hl)
  · have hl : i < ρ.length := (List.getElem?_eq_some_iff.mp e).1
    unfold putOb
    rw [e]
    exact .inr (List.getElem?_set_self hl)
theorem putOb_bor {i j : Nat} {o o' : Ob} (h : ρ[j]? = some (.bor o')) : ∃ o'', (putOb ρ i o)[j]? = some (.bor o'') := by
  by_cases e : j = i
  · subst e
    have hl : j < ρ.length := (List.getElem?_eq_some_iff.mp h).1
    unfold putOb
    rw [h]
    exact ⟨o, List.getElem?_set_self hl⟩
  · exact ⟨o', by rw [putOb_ne e]; exact h⟩
theorem back_cons {f : Bool} {fs : List Bool} {r : Rv} {rs : List Rv} {s : Sl} {ss : List Sl} {ρ : List Sl} : back (f :: fs) (r :: rs) (s :: ss) ρ = back fs rs ss (match f, r, s with
    | true, .var i, .bor o => putOb ρ i o
    | _, _, _ => ρ) := by
  cases f <;> cases r <;> cases s <;> first | rfl | skip
theorem back_rep : ∀ {rs : List Rv} {fs : List Bool} {ss : List Sl} {ρ : List Sl}, (lent fs rs).Nodup → ss.length = rs.length →
    (∀ (j i : Nat), fs.getD j false = true → rs[j]? = some (.var i) → OwnAt ρ i → ∃ o a, ss[j]? = some (.bor o) ∧ σ[i]? = some (some (.ref a)) ∧ obj S F H o a) → (∀ i ∈ lent fs rs, OwnAt ρ i) →
    SRepP S (lent fs rs) F σ ρ H → SRep S F σ (back fs rs ss ρ) H ∧ (∀ i, OwnAt (back fs rs ss ρ) i ↔ OwnAt ρ i) ∧ ∀ (i : Nat) (o : Ob), ρ[i]? = some (.bor o) → ∃ o', (back fs rs ss ρ)[i]? = some (.bor o')
  | [], fs, ss, ρ, _, hl, _, _, h => by
    have e : ss = [] := List.eq_nil_of_length_eq_zero hl
    subst e
    have e : back fs [] [] ρ = ρ := by cases fs with | nil => rfl | cons f fs => cases f <;> rfl
    have e2 : lent fs [] = [] := by cases fs with | nil => rfl | cons f fs => cases f <;> rfl
    rw [e]
    rw [e2] at h
    exact ⟨h.done, fun _ => Iff.rfl, fun i o z => ⟨o, z⟩⟩
  | r :: rs, [], ss, ρ, _, _, _, _, h => by
    exact ⟨SRepP.done h, fun _ => Iff.rfl, fun i o z => ⟨o, z⟩⟩
  | r :: rs, f :: fs, [], ρ, _, hl, _, _, _ => by simp at hl
  | r :: rs, f :: fs, s :: ss, ρ, nd, hl, hb, ho, h => by
    rw [back_cons]
    have hl' : ss.length = rs.length := by simpa using hl
    have rec_ : ∀ {ρ' : List Sl}, (lent fs rs).Nodup → (∀ i, OwnAt ρ' i ↔ OwnAt ρ i) → (∀ i ∈ lent fs rs, i ∈ lent (f :: fs) (r :: rs)) → (∀ (i : Nat) (o : Ob), ρ[i]? = some (.bor o) → ∃ o', ρ'[i]? = some (.bor o')) → SRepP S (lent fs rs) F σ ρ' H →
        SRep S F σ (back fs rs ss ρ') H ∧ (∀ i, OwnAt (back fs rs ss ρ') i ↔ OwnAt ρ i) ∧ ∀ (i : Nat) (o : Ob), ρ[i]? = some (.bor o) → ∃ o', (back fs rs ss ρ')[i]? = some (.bor o') := fun {ρ'} nd' ow sub bo h' => by
      obtain ⟨q1, q2, q3⟩ := back_rep (rs := rs) (fs := fs) (ss := ss) (ρ := ρ') nd' hl' (fun j i e1 e2 oi => hb (j + 1) i (by simpa using e1) (by simpa using e2) ((ow i).mp oi)) (fun i hi => (ow i).mpr (ho i (sub i hi))) h'
      refine ⟨q1, fun i => (q2 i).trans (ow i), fun i o z => ?_⟩
      obtain ⟨o', z'⟩ := bo i o z
      exact q3 i o' z'
    cases f with
    | false => exact rec_ nd (fun _ => Iff.rfl) (fun _ z => z) (fun i o z => ⟨o, z⟩) h
    | true =>
      cases r with
      | val d => exact rec_ nd (fun _ => Iff.rfl) (fun _ z => z) (fun i o z => ⟨o, z⟩) h
      | own d => exact rec_ nd (fun _ => Iff.rfl) (fun _ z => z) (fun i o z => ⟨o, z⟩) h
      | var i =>
        have nd' : i ∉ lent fs rs ∧ (lent fs rs).Nodup := List.nodup_cons.mp nd
        have oi : OwnAt ρ i := ho i List.mem_cons_self
        obtain ⟨o, a, e1, e2, q⟩ := hb 0 i rfl rfl oi
        have e1 : s = .bor o := by simpa using e1
        subst e1
        refine rec_ (ρ' := putOb ρ i o) nd'.2 (fun _ => putOb_own) (fun _ z => List.mem_cons_of_mem _ z) (fun _ _ z => putOb_bor z) ⟨by rw [putOb_len]; exact h.len, fun j s' hj e => ?_, fun j oj => h.own j (putOb_own.mp oj), fun j l b oj ol => h.inj j l b (putOb_own.mp oj) (putOb_own.mp ol), h.fz, h.tabs⟩
        by_cases z : j = i
        · subst z
          obtain ⟨b, eb, nf⟩ := h.own j oi
          rw [e2] at eb
          cases eb
          rcases putOb_at (o := o) oi with y | y <;> (rw [y] at e; cases e; exact ⟨a, e2, nf, q⟩)
        · rw [putOb_ne z] at e
          exact h.all j s' (fun m => (List.mem_cons.mp m).elim z hj) e
theorem borAll_get : ∀ {rs : List Rv} {fs : List Bool} {ss : List Sl} {j i : Nat} {s : Sl}, borAll fs rs ss = true → fs.getD j false = true → rs[j]? = some (.var i) → ss[j]? = some s → ∃ o, s = .bor o
  | [], _, _, _, _, _, _, _, e, _ => by simp at e
  | r :: rs, [], _, _, _, _, _, h, _, _ => by simp at h
  | r :: rs, f :: fs, [], _, _, _, _, _, _, e => by simp at e
  | r :: rs, f :: fs, s' :: ss, 0, i, s, b, h, e1, e2 => by
    have h : f = true := by simpa using h
    have e1 : r = .var i := by simpa using e1
    have e2 : s' = s := by simpa using e2
    subst h
    subst e1
    subst e2
    have b : (isBor s' && borAll fs rs ss) = true := b
    rw [Bool.and_eq_true] at b
    cases s' with
    | bor o => exact ⟨o, rfl⟩
    | emp => cases b.1
    | val _ => cases b.1
    | own _ => cases b.1
  | r :: rs, f :: fs, s' :: ss, j + 1, i, s, b, h, e1, e2 => by
    have b' : borAll fs rs ss = true := by
      cases f with
      | false => exact b
      | true =>
        cases r with
        | val _ => exact b
        | own _ => exact b
        | var i' =>
          have b : (isBor s' && borAll fs rs ss) = true := b
          rw [Bool.and_eq_true] at b
          exact b.2
    exact borAll_get (rs := rs) (fs := fs) (ss := ss) (j := j) (i := i) b' (by simpa using h) (by simpa using e1) (by simpa using e2)
theorem reps_sep : ∀ {rs : List Rv} {vs : List V} {j l : Nat} {r r' : Rv} {v v' : V}, RepRs S F σ ρ H rs vs → j ≠ l → rs[j]? = some r → rs[l]? = some r' → vs[j]? = some v → vs[l]? = some v' → IsOwn r → IsOwn r' → v ≠ v'
  | [], _, _, _, _, _, _, _, _, _, e, _, _, _, _, _ => by simp at e
  | x :: xs, _, 0, 0, _, _, _, _, _, ne, _, _, _, _, _, _ => absurd rfl ne
  | x :: xs, _, 0, l + 1, r, r', v, v', h, _, e1, e2, e3, e4, o1, o2 => by
    obtain ⟨w, ws, rfl, _, _, sep⟩ := h
    have e1 : x = r := by simpa using e1
    have e3 : w = v := by simpa using e3
    subst e1
    subst e3
    exact fun z => sep o1 l r' v' (by simpa using e2) (by simpa using e4) o2 z.symm
  | x :: xs, _, j + 1, 0, r, r', v, v', h, _, e1, e2, e3, e4, o1, o2 => by
    obtain ⟨w, ws, rfl, _, _, sep⟩ := h
    have e2 : x = r' := by simpa using e2
    have e4 : w = v' := by simpa using e4
    subst e2
    subst e4
    exact fun z => sep o2 j r v (by simpa using e1) (by simpa using e3) o1 z
  | x :: xs, _, j + 1, l + 1, r, r', v, v', h, ne, e1, e2, e3, e4, o1, o2 => by
    obtain ⟨w, ws, rfl, _, h2, _⟩ := h
    exact reps_sep (j := j) (l := l) h2 (fun z => ne (by rw [z])) (by simpa using e1) (by simpa using e2) (by simpa using e3) (by simpa using e4) o1 o2
/-- behind a call -/
theorem after_call {rs : List Rv} {fs : List Bool} {vs : List V} {ss ss' : List Sl} {F3 : Fz} {H3 : Hp} (P : Post S F0 σ ρ0 H0 F σ ρ H) (q : ArgsR S F σ ρ H fs rs vs ss) (n : News H0 rs vs) (nd : (lent fs rs).Nodup)
    (lo : (lent fs rs).all (fun i => ownSl ρ[i]?) = true) (ba : borAll fs rs ss = true) (Rc : SRep S F (vs.map some) ss H) (Pc : Post S F (vs.map some) ss H F3 (vs.map some) ss' H3) (hl : ss'.length = ss.length) :
    Post S F0 σ ρ0 H0 F3 σ (back fs rs ss' ρ) H3 ∧ ∀ a, OA σ (back fs rs ss' ρ) a → OA σ ρ a := by
  have R := P.rep
  have kp := Pc.kp Rc
  have lentOwn : ∀ i ∈ lent fs rs, OwnAt ρ i := fun i hi => own_of (List.all_eq_true.mp lo i hi)
  -- an object of a slot that is not lent
  have far : ∀ i a, OwnAt ρ i → σ[i]? = some (some (.ref a)) → i ∉ lent fs rs → ¬ OA (vs.map some) ss a := fun i a oi ei ni oc => by
    rcases callee_oa q n lo oc with ⟨j, i', o, fl, er, _, oi', ei'⟩ | ⟨_, no⟩
    · have z := R.inj i i' a oi oi' ei ei'
      subst z
      exact ni (lent_mem fl er)
    · exact no ⟨i, oi, ei⟩
  have nfar : ∀ i a, OwnAt ρ i → σ[i]? = some (some (.ref a)) → i ∉ lent fs rs → ¬ F3 a := fun i a oi ei ni f => by
    obtain ⟨nf, us, ea⟩ := R.oa ⟨i, oi, ei⟩
    rcases Pc.step.fn a f with z | z | z
    · exact nf z
    · exact z.lst ea
    · exact far i a oi ei ni z
  have lentAt : ∀ (j i : Nat), fs.getD j false = true → rs[j]? = some (.var i) → OwnAt ρ i → ∃ o a, ss'[j]? = some (.bor o) ∧ σ[i]? = some (some (.ref a)) ∧ ¬ F3 a ∧ obj S F3 H3 o a := fun j i fl er oi => by
    have jl : j < ss.length := by
      rw [(args_len q).2]
      exact (List.getElem?_eq_some_iff.mp er).1
    obtain ⟨o, eo⟩ := borAll_get ba fl er (List.getElem?_eq_getElem jl)
    have es : ss[j]? = some (.bor o) := by rw [List.getElem?_eq_getElem jl, eo]
    obtain ⟨r, v, e1, e2, qq⟩ := args_get q es
    rw [er] at e1
    cases e1
    rcases qq with ⟨d, z, _⟩ | ⟨_, i', o', a, z, _, ev, hs, _⟩ | ⟨_, _, z, _⟩
    · cases z
    · cases z
      obtain ⟨o2, eb, _⟩ := Pc.bor j o es
      obtain ⟨b, e3, nf, q3⟩ := Pc.rep.all j _ eb
      rw [List.getElem?_map, e2, ev] at e3
      cases e3
      exact ⟨o2, a, eb, hs, nf, q3⟩
    · cases z
  have posOf : ∀ {rs : List Rv} {fs : List Bool} {i : Nat}, i ∈ lent fs rs → ∃ j, fs.getD j false = true ∧ rs[j]? = some (.var i) := by
    intro rs
    induction rs with
    | nil =>
      intro fs i h
      cases fs with
      | nil => simp [lent] at h
      | cons f fs => cases f <;> simp [lent] at h
    | cons r rs ih =>
      intro fs i h
      cases fs with
      | nil => simp [lent] at h
      | cons f fs =>
        have go : i ∈ lent fs rs → ∃ j, (f :: fs).getD j false = true ∧ (r :: rs)[j]? = some (.var i) := fun h => by
          obtain ⟨j, e1, e2⟩ := ih h
          exact ⟨j + 1, by simpa using e1, by simpa using e2⟩
        cases f with
        | false => exact go h
        | true =>
          cases r with
          | val _ => exact go h
          | own _ => exact go h
          | var i' =>
            rcases List.mem_cons.mp h with z | z
            · subst z
              exact ⟨0, rfl, rfl⟩
            · exact go z
  have pre : SRepP S (lent fs rs) F3 σ ρ H3 := by
    refine ⟨R.len, fun i s ni e => ?_, fun i oi => ?_, R.inj, Pc.rep.fz, Pc.rep.tabs⟩
    · have qs := R.all i s e
      have go : ∀ o a, OwnAt ρ i → σ[i]? = some (some (.ref a)) → obj S F H o a → ¬ F3 a ∧ obj S F3 H3 o a := fun o a oi ei qo => by
        refine ⟨nfar i a oi ei ni, obj_mono kp qo fun u eu => ?_⟩
        obtain ⟨us, ea⟩ := obj_lst qo
        exact Pc.step.keep a u eu (fun ps z => by rw [ea] at eu; cases eu; cases z) (far i a oi ei ni)
      cases s with
      | emp => trivial
      | val d =>
        obtain ⟨v, e1, e2⟩ := qs
        exact ⟨v, e1, rep_mono kp d v e2⟩
      | own o =>
        obtain ⟨a, e1, _, e2⟩ := qs
        exact ⟨a, e1, go o a ⟨o, .inl e⟩ e1 e2⟩
      | bor o =>
        obtain ⟨a, e1, _, e2⟩ := qs
        exact ⟨a, e1, go o a ⟨o, .inr e⟩ e1 e2⟩
    · by_cases hi : i ∈ lent fs rs
      · obtain ⟨j, fl, er⟩ := posOf hi
        obtain ⟨o, a, _, e2, nf, _⟩ := lentAt j i fl er oi
        exact ⟨a, e2, nf⟩
      · obtain ⟨a, o, e1, _, _, _⟩ := R.own oi
        exact ⟨a, e1, nfar i a oi e1 hi⟩
  obtain ⟨b1, b2, b3⟩ := back_rep nd (by rw [hl, (args_len q).2]) (fun j i fl er oi => by
    obtain ⟨o, a, e1, e2, _, e3⟩ := lentAt j i fl er oi
    exact ⟨o, a, e1, e2, e3⟩) lentOwn pre
  have oaB : ∀ a, OA σ (back fs rs ss' ρ) a → OA σ ρ a := fun a ⟨i, oi, ei⟩ => ⟨i, (b2 i).mp oi, ei⟩
  have oaC : ∀ a, OA (vs.map some) ss a → OA σ ρ0 a ∨ Nn H0 a := fun a oc => by
    rcases callee_oa q n lo oc with ⟨_, i, _, _, _, _, oi, ei⟩ | ⟨z, _⟩
    · exact P.oa a ⟨i, oi, ei⟩
    · exact .inr z
  refine ⟨⟨⟨fun a o e nt no => ?_, fun a f => Pc.step.fs a (P.step.fs a f), fun a f => ?_, fun a e => P.step.ex a (Pc.step.ex a e)⟩, b1, fun a z => P.oa a (oaB a z), fun i o e => ?_⟩, oaB⟩
  · exact Pc.step.keep a o (P.step.keep a o e nt no) nt fun oc => (oaC a oc).elim no fun z => z.no e nt
  · rcases Pc.step.fn a f with z | z | z
    · exact P.step.fn a z
    · exact .inr (.inl (P.step.none z))
    · exact (oaC a z).elim (fun y => .inr (.inr y)) fun y => .inr (.inl y)
  · obtain ⟨o1, e1, _⟩ := P.bor i o e
    obtain ⟨o2, e2⟩ := b3 i o1 e1
    exact ⟨o2, e2, rfl⟩
/-- what a def of the text keeps: what the interpreter says of it -/
def spOf (S : Sx) (m : List Sl → Out Rv) : Sp := fun vs H Q E => ∃ F ρ, SRep S F (vs.map some) ρ H ∧ Wg S (fun c d _ H' => E c d H') (vs.map some) F ρ H (m ρ) (GQ S (vs.map some) H Q)
structure FnAt (S : Sx) (C : Cfg) (X : Cx) (n : Nat) (x : Str) (k : Nat) : Prop where
  mg : X.mg x = some (.ref (S.fa k))
  kp : PySem.W.keepIn X.K (.ref (S.fa k)) = true
  ok : ∃ (fd : FuncData) (ps : List Str), FnOk X.prog X.w X.K X.mg X.base (L2.CX X.prog X.w) n (S.fa k) fd ps (spOf S (C.R k)) ∧ Binds X.K fd ps []
theorem star_of {es : List Expr} (h : noStar es = true) : ∀ e ∈ es, ∀ e' p, e ≠ .Starred e' p := fun e he e' p z => by
  have q := List.all_eq_true.mp h e he
  rw [z] at q
  cases q
theorem star_any {pos : Pos} : ∀ {es : List Expr}, (∀ e ∈ es, ∀ e' p, e ≠ .Starred e' p) → (backTo pos (starEach es X.env)).any (·.1) = false
  | [], _ => rfl
  | y :: ys, h => by
    rw [star_ok (h y List.mem_cons_self)]
    exact star_any (es := ys) fun e he => h e (List.mem_cons_of_mem _ he)
theorem pe_callR {C : Cfg} {f : Expr → M Rv} {n k : Nat} {x : Str} {e : Expr} {es : List Expr} {p pos : Pos} (A : FnAt S C X n x k) (hr : Room n X.A) (tk : Takes X W) (hg : Gl X x) (hd : (x == ("__debug__" : Str)) = false) (hs : noStar (e :: es) = true) (h : ∀ e' ∈ e :: es, PE X e' (tE S W (f e'))) :
    PE X (.Call (.Name x p) (e :: es) [] pos) (tE S W (M.bnd (evArgs f (e :: es)) fun rs => callR C k rs)) := by
  have st := star_of hs
  obtain ⟨fd, ps, Fo, hb⟩ := A.ok
  refine PE.sub (pe_callS Fo hr hg A.mg A.kp hb (fun σ => passAt tk σ) (pa_ev h) hd (star_ok (st e List.mem_cons_self)) (star_any fun e he => st e (List.mem_cons_of_mem _ he))) fun σ H Q ⟨F, ρ, R, w⟩ => ?_
  refine run_A0 R w fun rs F1 ρ1 H1 vs P rvs nvs w => ?_
  obtain ⟨nd, w⟩ := guard_inv w
  have nd := of_decide_eq_true nd
  obtain ⟨ss, ρ2, e1, w⟩ := bnd_ok w args_noexc
  split at w
  · rename_i lb
    rw [Bool.and_eq_true] at lb
    obtain ⟨F2, P2, _, q, _, _⟩ := args_post P rvs nvs e1
    have Rc := callee_rep P2.rep q nd lb.1 fun j l r r' v v' => reps_sep rvs
    refine ⟨F2, ss, Rc, ?_⟩
    cases hR : C.R k ss with
    | bad => rw [hR] at w; exact w
    | exc c x ss' =>
      rw [hR] at w
      simp only at w
      split at w
      · rename_i hl
        exact fun F3 H3 cls d Pc hx => w F3 H3 cls d (after_call P2 q nvs nd lb.1 lb.2 Rc Pc (of_decide_eq_true hl)).1 hx
      · exact w.elim
    | ok r ss' =>
      rw [hR] at w
      simp only at w
      split at w
      · rename_i hl
        rw [Bool.and_eq_true] at hl
        intro F3 H3 Pc v rv nv
        obtain ⟨P3, oaB⟩ := after_call P2 q nvs nd lb.1 lb.2 Rc Pc (of_decide_eq_true hl.2)
        refine w F3 H3 P3 v ?_ (nv.back P2.step)
        cases r with
        | val d => exact rv
        | var i => cases hl.1
        | own o =>
          obtain ⟨a, ea, nf, _, qo⟩ := rv
          exact ⟨a, ea, nf, fun z => P2.rep.nn_O (nv a ea) (oaB a z), qo⟩
      · exact w.elim
  · exact w.elim
end
end Pyd
end

section
set_option Elab.async false
set_option linter.all false
set_option maxRecDepth 100000
set_option maxHeartbeats 4000000
/-! Pyd, part H: methods of lists and tuples. -/
namespace Pyd
open PySem PySem.Spec L2
open PyProof.Rows hiding St
def tyZ (K : PySem.W.Frag) (T : String) (x : V) (H : Hp) : Prop := ∃ a, x = .ref a ∧ ((T = "list" ∧ ∃ xs, H a = some (.lst xs)) ∨ (T = "tuple" ∧ ∃ xs, TupAt K H a xs))
section
variable {X : Cx} {pins : List (Addr × Obj)} {σ : St} {H : Hp} {s : Shared}
theorem tyZ_is {T : String} {x : V} {v : Value} (I : Inv X pins σ H s) (r : RelV x v) (ty : tyZ X.K T x H) : s.TypeIs v T ∧ ∀ a, v = .ref a → ∃ ob, s.heap.get? a = some ob ∧ ob.dict = none := by
  obtain ⟨a, rfl, h⟩ := ty
  cases r
  rcases h with ⟨rfl, xs, h⟩ | ⟨rfl, xs, h⟩
  · obtain ⟨_, its, n, _, e⟩ := I.hok a _ h
    exact ⟨⟨_, e, rfl⟩, fun b z => by cases z; exact ⟨_, e, rfl⟩⟩
  · rcases h with ⟨ob, h, hd⟩ | ⟨o, its, n, h, hc, hd, _⟩
    · obtain ⟨e, _, us, _, o, e2, hc, _⟩ := I.hok a _ h
      rw [e] at e2
      cases e2
      exact ⟨⟨_, e, hc⟩, fun b z => by cases z; exact ⟨_, e, hd⟩⟩
    · have e := I.kIn a o h
      exact ⟨⟨_, e, hc⟩, fun b z => by cases z; exact ⟨_, e, hd⟩⟩
end
section
variable {X : Cx} {T id : String} {name : Str} {o : Expr} {es : List Expr} {to : TE} {t : TA} {r : V → List V → Hp → VK → Prop} {apos cpos : Pos}
def tBMZ (K : PySem.W.Frag) (T : String) (r : V → List V → Hp → VK → Prop) (to : TE) (t : TA) : TE := fun σ H Q => to σ H fun x H1 => tyZ K T x H1 ∧ t σ H1 fun xs H2 => r x xs H2 Q
theorem few_ok {env : Env} {es : List Expr} (hs : (backTo cpos (starEach es env)).any (·.1) = false) (hn : decide (es.length < 30) = true) : ((backTo cpos (starEach es env)).all (fun x => !x.1) && (backToKw cpos (keywordEach [] env)).all (fun x => x.1.isSome)
      && decide (es.length + ([] : List Keyword).length + (if ([] : List Keyword).isEmpty then 0 else 1) < 30)) = true := by
  have h1 : (backTo cpos (starEach es env)).all (fun x => !x.1) = true := by
    rw [List.all_eq_true]
    intro x hx
    have q := List.any_eq_false.mp hs x hx
    simpa using q
  rw [h1]
  have hn := of_decide_eq_true hn
  show (true && true && decide (es.length + 0 + 0 < 30)) = true
  simpa using hn
theorem pe_bmZ0 (pa : PlainAttrs T) (slot : Slot T name id) (hty : typeOf (.builtin id) = pure (.type "method_descriptor")) (hm : MtR X id r) (ho : PE X o to)
    (hbase : attributeBase o name X.env (eval o X.env) = eval o X.env) (hline : (apos.endLine == cpos.line) = true) : PE X (.Call (.Attribute o name apos) [] [] cpos) (tBMZ X.K T r to tNil) := by
  refine ⟨fun pins s σ H Q I h => ?_⟩
  refine wpAny_Call_method0_late hbase hline (thn (ho.run pins s σ H _ I h) fun v s1 ⟨x, H1, I1, r1, ty, q1⟩ => ?_)
  obtain ⟨t1, t2⟩ := tyZ_is I1 r1 ty
  exact ⟨T, id, pa, slot, hty, t1, t2, Calls.callWith_builtin rfl (PySem.evalArgs_none (hm pins s1 σ H1 x [] v [] Q I1 r1 .nil q1))⟩
theorem pe_bmZ {e : Expr} (pa : PlainAttrs T) (slot : Slot T name id) (hty : typeOf (.builtin id) = pure (.type "method_descriptor")) (hm : MtR X id r) (ho : PE X o to) (ha : PA X (e :: es) t)
    (hbase : attributeBase o name X.env (eval o X.env) = eval o X.env) (st : ∀ e' p, e ≠ .Starred e' p) (hs : (backTo cpos (starEach es X.env)).any (·.1) = false) (hn : decide ((e :: es).length < 30) = true) (hline : (apos.endLine == cpos.line) = true) :
    PE X (.Call (.Attribute o name apos) (e :: es) [] cpos) (tBMZ X.K T r to t) := by
  refine ⟨fun pins s σ H Q I h => ?_⟩
  have hs' : (backTo cpos (starEach (e :: es) X.env)).any (·.1) = false := by
    rw [star_ok st]
    exact hs
  refine wpAny_Call_method_late hbase (few_ok hs' hn) hline rfl (thn (ho.run pins s σ H _ I h) fun v s1 ⟨x, H1, I1, r1, ty, q1⟩ => ?_)
  obtain ⟨t1, t2⟩ := tyZ_is I1 r1 ty
  refine ⟨T, id, pa, slot, hty, t1, t2, ?_⟩
  have hA := ha.run cpos pins s1 σ H1 _ I1 q1
  rw [star_ok st] at hA ⊢
  refine Calls.callWith_builtin hs (Calls.evalArgs_plain ?_)
  exact thn hA fun us s2 ⟨vs, H2, I2, r2, q2⟩ => hm pins s2 σ H2 x vs v us Q I2 r1 r2 q2
end
/-! ### an owned list is changed -/
theorem tabs_keep {T : List (Addr × Str)} {H H' : Hp} (e : ∀ b o, H b = some o → (∀ xs, o ≠ .lst xs) → H' b = some o) (h : LamX.Tabs T H) : LamX.Tabs T H' := fun p hp => by
  obtain ⟨ps, h1, h2, h3⟩ := h p hp
  refine ⟨ps, e _ _ h1 (fun xs z => nomatch z), h2, fun pos cv hc => ?_⟩
  obtain ⟨c, e1, e2⟩ := h3 pos cv hc
  exact ⟨c, e1, e _ _ e2 (fun xs z => by unfold LamX.CodeO at z; cases z)⟩
section
variable {S : Sx} {W : WX} {X : Cx} {σ : St} {F : Fz} {ρ : List Sl} {H : Hp}
theorem post_put {j : Nat} {a : Addr} {vs : List V} {o' : Ob} {us : List V} (R : SRep S F σ ρ H) (oj : OwnAt ρ j) (ej : σ[j]? = some (some (.ref a))) (ea : H a = some (.lst vs)) (q : ∀ H', Kp F H F H' → H' a = some (.lst us) → obj S F H' o' a) :
    Post S F σ ρ H F σ (putOb ρ j o') (upd H a (.lst us)) := by
  have oa : OA σ ρ a := ⟨j, oj, ej⟩
  have nf := (R.oa oa).1
  have ne : ∀ b o, H b = some o → (∀ xs, o ≠ .lst xs) → b ≠ a := fun b o e n z => by
    subst z
    rw [ea] at e
    cases e
    exact n _ rfl
  have kp : Kp F H F (upd H a (.lst us)) := ⟨fun b ob u e => by rw [upd_ne (ne b _ e fun xs z => nomatch z)]; exact e, fun _ f => f, fun b o f e => by rw [upd_ne (fun (z : b = a) => nf (z ▸ f))]; exact e⟩
  have q' := q _ kp upd_same
  refine ⟨⟨fun b o e _ n => by rw [upd_ne (fun (z : b = a) => n (z ▸ oa))]; exact e, fun _ f => f, fun _ f => .inl f, fun b h => h.upd ea⟩, ⟨by rw [putOb_len]; exact R.len, fun i s e => ?_, fun i l b oi ol => R.inj i l b (putOb_own.mp oi) (putOb_own.mp ol), fun b f => ?_, tabs_keep (fun b o e n => by rw [upd_ne (ne b o e n)]; exact e) R.tabs⟩, fun b ⟨i, oi, ei⟩ => .inl ⟨i, putOb_own.mp oi, ei⟩, fun i o e => ?_⟩
  · by_cases hi : i = j
    · subst hi
      rcases putOb_at (o := o') oj with y | y <;> (rw [y] at e; cases e; exact ⟨a, ej, nf, q'⟩)
    · rw [putOb_ne hi] at e
      have qs := R.all i s e
      have far : ∀ b, OwnAt ρ i → σ[i]? = some (some (.ref b)) → b ≠ a := fun b oi eb z => hi (R.inj i j a oi oj (z ▸ eb) ej)
      cases s with
      | emp => trivial
      | val d =>
        obtain ⟨v, e1, e2⟩ := qs
        exact ⟨v, e1, rep_mono kp d v e2⟩
      | own o =>
        obtain ⟨b, e1, n, e2⟩ := qs
        exact ⟨b, e1, n, obj_mono kp e2 fun u eu => by rw [upd_ne (far b ⟨o, .inl e⟩ e1)]; exact eu⟩
      | bor o =>
        obtain ⟨b, e1, n, e2⟩ := qs
        exact ⟨b, e1, n, obj_mono kp e2 fun u eu => by rw [upd_ne (far b ⟨o, .inr e⟩ e1)]; exact eu⟩
  · have hb : b ≠ a := fun (z : b = a) => nf (z ▸ f)
    rw [upd_ne hb]
    exact R.fz b f
  · obtain ⟨o'', e'⟩ := putOb_bor (i := j) (o := o') e
    exact ⟨o'', e', rfl⟩
/-- where a name holds a list of its own -/
theorem own_lst {j : Nat} (R : SRep S F σ ρ H) (h : OwnAt ρ j) : ∃ a ds vs, σ[j]? = some (some (.ref a)) ∧ (ρ[j]? = some (.own (.lst ds)) ∨ ρ[j]? = some (.bor (.lst ds))) ∧ H a = some (.lst vs) ∧ reps S F H ds vs := by
  obtain ⟨a, o, e, _, ho, q⟩ := R.own h
  cases o with
  | lst ds =>
    obtain ⟨vs, e1, e2⟩ := q
    exact ⟨a, ds, vs, e, ho, e1, e2⟩
theorem chVar_inv {j : Nat} {m : Str} {as : List D} {G : Rv → Fz → List Sl → Hp → Prop} {F0 : Fz} {ρ0 : List Sl} {H0 : Hp} (h : Wg S W σ F0 ρ0 H0 (chVar j m as ρ) G) : ∃ ds y ds', (ρ[j]? = some (.own (.lst ds)) ∨ ρ[j]? = some (.bor (.lst ds))) ∧ chD m ds as = some (y, ds') ∧ Wg S W σ F0 ρ0 H0 (.ok (.val y) (putOb ρ j (.lst ds'))) G := by
  unfold chVar at h
  split at h
  · rename_i ds e
    split at h
    · rename_i y ds' e2
      refine ⟨ds, y, ds', .inl e, e2, ?_⟩
      unfold putOb
      rw [e]
      exact h
    · exact h.elim
  · rename_i ds e
    split at h
    · rename_i y ds' e2
      refine ⟨ds, y, ds', .inr e, e2, ?_⟩
      unfold putOb
      rw [e]
      exact h
    · exact h.elim
  · exact h.elim
theorem ownThen_inv {α : Type} {j : Nat} {m : M α} {G : α → Fz → List Sl → Hp → Prop} (h : Wg S W σ F ρ H (ownThen j m ρ) G) : ownSl ρ[j]? = true ∧ Wg S W σ F ρ H (m ρ) G := by
  unfold ownThen at h
  cases e : ownSl ρ[j]? with
  | true => rw [e] at h; exact ⟨rfl, h⟩
  | false => rw [e] at h; exact h.elim
theorem ixN_in {n : Nat} {i : Int} {k : Nat} (h : ixN n i = some k) (s : small i = true) : seqIndex? i n = some k ∧ k < n ∧ -(2 ^ 63) ≤ i ∧ i < 2 ^ 63 := by
  obtain ⟨h1, h2, _, _⟩ := ixN_seq h
  obtain ⟨s1, s2⟩ := small_in s
  exact ⟨h1, h2, by omega, by omega⟩
/-- xs.append(e), extend, pop -/
theorem pe_chg {f : Expr → M Rv} {j : Nat} {x m : Str} {es : List Expr} {p apos cpos : Pos} {id : String} {r : V → List V → Hp → VK → Prop} (hid : Slot "list" m id) (hty : typeOf (.builtin id) = pure (.type "method_descriptor")) (hm : MtR X id r)
    (hN : X.N[j]? = some x) (hv : Vis X.env.scope x) (hd : (x == ("__debug__" : Str)) = false) (hcd : (x == ("__classdict__" : Str)) = false) (hs : noStar es = true) (hn : decide (es.length < 30) = true) (hline : (apos.endLine == cpos.line) = true) (h : ∀ e ∈ es, PE X e (tE S W (f e)))
    (hr : ∀ (F : Fz) (H : Hp) (a : Addr) (ds as : List D) (vs xs : List V) (y : D) (ds' : List D) (Q : VK), H a = some (.lst vs) → reps S F H ds vs → reps S F H as xs → chD m ds as = some (y, ds') → (∀ u us, rep S F H y u → (∀ H', Kp F H F H' → H' a = some (.lst us) → obj S F H' (.lst ds') a) → Q u (upd H a (.lst us))) → r (.ref a) xs H Q) :
    PE X (.Call (.Attribute (.Name x p) m apos) es [] cpos) (tE S W (ownThen j (M.bnd (evArgs f es) fun rs => M.bnd (frzs rs) fun ds => chVar j m ds))) := by
  have go : ∀ (F : Fz) (ρ : List Sl) (σ : St) (H : Hp) (a : Addr) (Q : VK), SRep S F σ ρ H → σ[j]? = some (some (.ref a)) → ∀ (rs : List Rv) (F1 : Fz) (ρ1 : List Sl) (H1 : Hp) (vs : List V), Post S F σ ρ H F1 σ ρ1 H1 → RepRs S F1 σ ρ1 H1 rs vs → News H rs vs →
      Wg S W σ F ρ H (M.bnd (frzs rs) (fun ds => chVar j m ds) ρ1) (GQ S σ H Q) → r (.ref a) vs H1 Q := fun F ρ σ H a Q R ej rs F1 ρ1 H1 vs P rvs nvs w => by
    obtain ⟨as, ρ2, e, w⟩ := bnd_ok w frzs_noexc
    obtain ⟨F2, P2, q, _⟩ := frzs_post P rvs nvs e
    obtain ⟨ds, y, ds', hj, hc, w⟩ := chVar_inv w
    have oj : OwnAt ρ2 j := ⟨_, hj⟩
    obtain ⟨a', ds1, us, ej', hj', ea', rs'⟩ := own_lst P2.rep oj
    rw [ej] at ej'
    cases ej'
    have eds : ds1 = ds := by
      rcases hj with z | z <;> rcases hj' with z' | z' <;> (rw [z] at z'; cases z') <;> rfl
    subst eds
    refine hr F2 H1 a ds1 as us vs y ds' Q ea' rs' q hc fun u us' ru qo => ?_
    have pp := post_put P2.rep oj ej ea' qo
    exact w F2 _ (P2.trans pp) u (rep_mono (pp.kp P2.rep) y u ru) trivial
  cases es with
  | nil =>
    refine PE.sub (pe_bmZ0 PySem.F.plainAttrs_list hid hty hm (pe_var hN hv hd hcd) rfl hline) fun σ H Q ⟨F, ρ, R, w⟩ => ?_
    obtain ⟨ho, w⟩ := ownThen_inv w
    obtain ⟨a, ds0, vs0, ej, _, ea, _⟩ := own_lst R (own_of ho)
    exact ⟨.ref a, ej, ⟨a, rfl, .inl ⟨rfl, vs0, ea⟩⟩, go F ρ σ H a Q R ej [] F ρ H [] (Post.refl R) rfl trivial w⟩
  | cons e es =>
    have st := star_of hs
    refine PE.sub (pe_bmZ PySem.F.plainAttrs_list hid hty hm (pe_var hN hv hd hcd) (pa_ev h) rfl (st e List.mem_cons_self) (star_any fun e he => st e (List.mem_cons_of_mem _ he)) hn hline) fun σ H Q ⟨F, ρ, R, w⟩ => ?_
    obtain ⟨ho, w⟩ := ownThen_inv w
    obtain ⟨a, ds0, vs0, ej, _, ea, _⟩ := own_lst R (own_of ho)
    exact ⟨.ref a, ej, ⟨a, rfl, .inl ⟨rfl, vs0, ea⟩⟩, run_A0 R w (go F ρ σ H a Q R ej)⟩
theorem str_beq {a b : Str} (h : (a == b) = true) : a = b := by simpa using h
theorem chg_append (F : Fz) (H : Hp) (a : Addr) (ds as : List D) (vs xs : List V) (y : D) (ds' : List D) (Q : VK) (ea : H a = some (.lst vs)) (rd : reps S F H ds vs) (ra : reps S F H as xs) (hc : chD "append" ds as = some (y, ds'))
    (k : ∀ u us, rep S F H y u → (∀ H', Kp F H F H' → H' a = some (.lst us) → obj S F H' (.lst ds') a) → Q u (upd H a (.lst us))) : rAppend (.ref a) xs H Q := by
  cases as with
  | nil => cases hc
  | cons x as =>
    cases as with
    | cons x2 as => cases hc
    | nil =>
      obtain ⟨v, r, rfl, rv, e⟩ := ra
      rw [show r = [] from e]
      have hc : chk (decide (ds.length < sizeLine)) (some (D.non, ds ++ [x])) = some (y, ds') := hc
      obtain ⟨l, hc⟩ := chk_inv hc
      cases hc
      refine ⟨a, vs, v, rfl, rfl, ea, by rw [← reps_length rd]; exact of_decide_eq_true l, k .non _ rfl fun H' kp e => ⟨_, e, reps_append (reps_mono kp ds vs rd) (reps_one (rep_mono kp x v rv))⟩⟩
theorem chg_extend (F : Fz) (H : Hp) (a : Addr) (ds as : List D) (vs xs : List V) (y : D) (ds' : List D) (Q : VK) (ea : H a = some (.lst vs)) (rd : reps S F H ds vs) (ra : reps S F H as xs) (hc : chD "extend" ds as = some (y, ds'))
    (k : ∀ u us, rep S F H y u → (∀ H', Kp F H F H' → H' a = some (.lst us) → obj S F H' (.lst ds') a) → Q u (upd H a (.lst us))) : rExtend (.ref a) xs H Q := by
  cases as with
  | nil => cases hc
  | cons x as =>
    cases as with
    | cons x2 as => cases hc
    | nil =>
      obtain ⟨v, r, rfl, rv, e⟩ := ra
      rw [show r = [] from e]
      cases x <;> first | cases hc | skip
      rename_i zs
      obtain ⟨b, us, rfl, _, eb, ru⟩ := rv
      have hc : chk (okLen (ds.length + zs.length)) (some (D.non, ds ++ zs)) = some (y, ds') := hc
      obtain ⟨l, hc⟩ := chk_inv hc
      cases hc
      refine ⟨a, b, vs, us, rfl, rfl, ea, eb, by rw [← reps_length rd, ← reps_length ru]; exact okLen_le l, k .non _ rfl fun H' kp e => ⟨_, e, reps_append (reps_mono kp ds vs rd) (reps_mono kp zs us ru)⟩⟩
theorem chg_pop (F : Fz) (H : Hp) (a : Addr) (ds as : List D) (vs xs : List V) (y : D) (ds' : List D) (Q : VK) (ea : H a = some (.lst vs)) (rd : reps S F H ds vs) (ra : reps S F H as xs) (hc : chD "pop" ds as = some (y, ds'))
    (k : ∀ u us, rep S F H y u → (∀ H', Kp F H F H' → H' a = some (.lst us) → obj S F H' (.lst ds') a) → Q u (upd H a (.lst us))) : rPop (.ref a) xs H Q ∨ rPopAt (.ref a) xs H Q := by
  cases as with
  | nil =>
    rw [show xs = [] from ra]
    have hc : (ds[ds.length - 1]?).map (fun y => (y, ds.dropLast)) = some (y, ds') := hc
    cases h : ds[ds.length - 1]? with
    | none => rw [h] at hc; cases hc
    | some z =>
      rw [h] at hc
      cases hc
      obtain ⟨u, e1, e2⟩ := reps_get rd h
      exact .inl ⟨a, vs, u, rfl, rfl, ea, by rw [← reps_length rd]; exact e1, k u _ e2 fun H' kp e => ⟨_, e, reps_dropLast (reps_mono kp ds vs rd)⟩⟩
  | cons x as =>
    cases as with
    | cons x2 as => cases hc
    | nil =>
      obtain ⟨v, r, rfl, rv, e⟩ := ra
      rw [show r = [] from e]
      cases x <;> first | cases hc | skip
      rename_i i
      have hc : chk (small i) ((ixN ds.length i).bind fun k => (ds[k]?).map fun y => (y, ds.eraseIdx k)) = some (y, ds') := hc
      obtain ⟨l, hc⟩ := chk_inv hc
      cases hi : ixN ds.length i with
      | none => rw [hi] at hc; cases hc
      | some n =>
        rw [hi] at hc
        obtain ⟨s1, s2, s3, s4⟩ := ixN_in hi l
        have hc : (ds[n]?).map (fun y => (y, ds.eraseIdx n)) = some (y, ds') := hc
        cases h : ds[n]? with
        | none => rw [h] at hc; cases hc
        | some z =>
          rw [h] at hc
          cases hc
          obtain ⟨u, e1, e2⟩ := reps_get rd h
          exact .inr ⟨a, vs, i, n, u, rfl, by rw [show v = V.int i from rv], ea, s3, s4, by rw [← reps_length rd]; exact s1, e1, k u _ e2 fun H' kp e => ⟨_, e, reps_erase n (reps_mono kp ds vs rd)⟩⟩
end
/-! ### methods that only read -/
section
variable {S : Sx} {W : WX} {X : Cx}
theorem countP_eqU {x : V} : ∀ {xs : List V} {us : List Value}, Vals xs us → xs.all flatV = true → us.countP (eqU x) = xs.countP fun y => eqV y x
  | _, _, .nil, _ => rfl
  | y :: xs, u :: us, .cons r t, f => by
    rw [List.all_cons, Bool.and_eq_true] at f
    rw [List.countP_cons, List.countP_cons, eqU_of r f.1, countP_eqU t f.2]
theorem countP_reps {F : Fz} {H : Hp} {x : D} {u : V} (hx : top S F H x u) (fx : flatD x = true) : ∀ {ds : List D} {vs : List V}, reps S F H ds vs → ds.all flatD = true → vs.countP (fun y => eqV y u) = ds.countP fun y => eqF y x
  | [], _, h, _ => by rw [show _ = [] from h]; rfl
  | d :: ds, _, h, f => by
    obtain ⟨v, r, rfl, h1, h2⟩ := h
    rw [List.all_cons, Bool.and_eq_true] at f
    rw [List.countP_cons, List.countP_cons, eqF_rep (rep_top h1) hx f.1 fx, countP_reps hx fx h2 f.2]
theorem findIdx_some {α : Type} {p : α → Bool} : ∀ {l : List α} {j : Nat}, l.findIdx? p = some j → ∃ z, l[j]? = some z ∧ p z = true ∧ ∀ (m : Nat) (z' : α), m < j → l[m]? = some z' → p z' = false := by
  intro l j h
  obtain ⟨hl, h1, h2⟩ := List.findIdx?_eq_some_iff_getElem.mp h
  refine ⟨l[j], List.getElem?_eq_getElem hl, h1, fun m z' hm e => ?_⟩
  obtain ⟨hml, e⟩ := List.getElem?_eq_some_iff.mp e
  have q := h2 m hm
  rw [e] at q
  simpa using q
theorem mt_tupCount : MtR X "tuple.count" (fun x xs H Q => ∃ a ys y, x = .ref a ∧ xs = [y] ∧ SqT X.K H a ys ∧ flatV y = true ∧ ys.all flatV = true ∧ Q (.int ((ys.countP fun z => eqV z y : Nat) : Int)) H) := by
  intro pins s σ H x xs v us Q I rx rxs h
  obtain ⟨a, ys, y, rfl, rfl, hs, fy, fys, q⟩ := h
  cases rx
  obtain ⟨u, rfl, ru⟩ := vals1 rxs
  obtain ⟨its, rv, ⟨⟨cls, dd, data, sl⟩, ho, hc, n, hd⟩, _⟩ := I.tuple hs
  simp only at hc hd
  subst hc hd
  refine call_meets PySem.F.slot_tuple_count ⟨_, ho, rfl⟩ PySem.F.entry_tuple_count (PySem.F.args_tuple_count_2 _ _) (SeqAt.tuple_countAt a its.toArray n dd sl u (eqU y)) ⟨ho, fun w hw => mem_eqAt ru fy rv fys w (by simpa using hw), ?_⟩
  refine ⟨.int ((ys.countP fun z => eqV z y : Nat) : Int), H, I.tok _, ⟨s.toks, ?_⟩, q⟩
  rw [← countP_eqU rv fys]
theorem mt_lstCount : MtR X "list.count" (fun x xs H Q => ∃ a ys y, x = .ref a ∧ xs = [y] ∧ SqL X.K H a ys ∧ flatV y = true ∧ ys.all flatV = true ∧ Q (.int ((ys.countP fun z => eqV z y : Nat) : Int)) H) := by
  intro pins s σ H x xs v us Q I rx rxs h
  obtain ⟨a, ys, y, rfl, rfl, hs, fy, fys, q⟩ := h
  cases rx
  obtain ⟨u, rfl, ru⟩ := vals1 rxs
  obtain ⟨its, rv, ⟨⟨cls, dd, data, sl⟩, n, ho, hc, _, hd⟩, _⟩ := I.list hs
  simp only at hc hd
  subst hc hd
  refine call_meets PySem.F.slot_list_count ⟨_, ho, rfl⟩ PySem.F.entry_list_count (PySem.F.args_list_count_2 _ _) (SeqAt.list_countAt a its.toArray n dd sl u (eqU y)) ⟨ho, fun w hw => mem_eqAt ru fy rv fys w (by simpa using hw), ?_⟩
  refine ⟨.int ((ys.countP fun z => eqV z y : Nat) : Int), H, I.tok _, ⟨s.toks, ?_⟩, q⟩
  rw [← countP_eqU rv fys]
theorem cnt_inv {x : D} {ds : List D} {z : Rv} (h : cntD x ds = some z) : flatD x = true ∧ ds.all flatD = true ∧ z = .val (.int ((ds.countP fun y => eqF y x) : Nat)) := by
  obtain ⟨k, e⟩ := chk_inv h
  cases e
  rw [Bool.and_eq_true] at k
  exact ⟨k.1, k.2, rfl⟩
theorem idx_inv {x : D} {ds : List D} {z : Rv} (h : idxD x ds = some z) : flatD x = true ∧ ds.all flatD = true ∧ ∃ j, ds.findIdx? (fun y => eqF y x) = some j ∧ z = .val (.int (j : Nat)) := by
  obtain ⟨k, e⟩ := chk_inv h
  rw [Bool.and_eq_true] at k
  cases h : ds.findIdx? (fun y => eqF y x) with
  | none => rw [h] at e; cases e
  | some j => rw [h] at e; cases e; exact ⟨k.1, k.2, j, rfl, rfl⟩
theorem pe_mtD {f : Expr → M Rv} {m : Str} {mo : M Rv} {o e : Expr} {es : List Expr} {apos cpos : Pos} (hK : X.K = S.K) (ho : PE X o (tE S W mo)) (hs : noStar (e :: es) = true) (hn : decide ((e :: es).length < 30) = true) (hline : (apos.endLine == cpos.line) = true) (hb : okBase o = true) (h : ∀ e' ∈ e :: es, PE X e' (tE S W (f e'))) :
    PE X (.Call (.Attribute o m apos) (e :: es) [] cpos) (tE S W (M.bnd mo fun r => M.bnd (look r) fun d0 => M.guard (mtOk m d0) (M.bnd (evArgs f (e :: es)) fun rs => M.bnd (look r) fun d => M.guard (alike d0 d) (M.bnd (looks rs) fun ds => M.opt (mtD m d ds))))) := by
  have hbase : attributeBase o m X.env (eval o X.env) = eval o X.env := by
    cases o <;> first | rfl | cases hb
  have st := star_of hs
  have st0 := st e List.mem_cons_self
  have hs1 : (backTo cpos (starEach es X.env)).any (·.1) = false := star_any fun e he => st e (List.mem_cons_of_mem _ he)
  have hs2 : (backTo cpos (starEach (e :: es) X.env)).any (·.1) = false := star_any st
  refine ⟨fun pins s σ H Q I ⟨F, ρ, R, w⟩ => ?_⟩
  have q1 := run_E (Q := fun v H1 => ∃ F1 ρ1 r d0, SRep S F1 σ ρ1 H1 ∧ RepR S F1 σ ρ1 H1 r v ∧ peek r ρ1 = some d0 ∧ mtOk m d0 = true ∧
      Wg S W σ F1 ρ1 H1 (M.bnd (evArgs f (e :: es)) (fun rs => M.bnd (look r) fun d => M.guard (alike d0 d) (M.bnd (looks rs) fun ds => M.opt (mtD m d ds))) ρ1) (GQ S σ H Q)) R w fun r F1 ρ1 H1 v P rv _ w => by
    obtain ⟨d0, e0, w⟩ := Wg.look w
    obtain ⟨k0, w⟩ := guard_inv w
    exact ⟨F1, ρ1, r, d0, P.rep, rv, e0, k0, w⟩
  refine wpAny_Call_method_late hbase (few_ok hs2 hn) hline rfl (thn (ho.run pins s σ H _ I q1) fun v s1 ⟨x, H1, I1, rx, F1, ρ1, r, d0, R1, rv, e0, k0, w⟩ => ?_)
  have t0 := peek_top R1 rv e0
  -- what stands behind the arguments
  have hA : ∀ (id : String), (∀ (pins : List (Addr × Obj)) (s : Shared) (H2 : Hp) (xs : List V) (us : List Value), Inv X pins σ H2 s → Vals xs us →
      (∃ F2 ρ2 rs, SRep S F2 σ ρ2 H2 ∧ RepR S F2 σ ρ2 H2 r x ∧ RepRs S F2 σ ρ2 H2 rs xs ∧ Wg S W σ F2 ρ2 H2 (M.bnd (look r) (fun d => M.guard (alike d0 d) (M.bnd (looks rs) fun ds => M.opt (mtD m d ds))) ρ2) (GQ S σ H Q)) →
      wpAny (model X.prog X.w) X.A (call (.builtin id) (v :: us)) (EP X pins σ Q) X.xe s) → wpAny (model X.prog X.w) X.A (callWith cpos (.builtin id) [v] (backTo cpos (starEach (e :: es) X.env)) []) (EP X pins σ Q) X.xe s1 := fun id hm => by
    have q2 := run_A (Q := fun xs H2 => ∃ F2 ρ2 rs, SRep S F2 σ ρ2 H2 ∧ RepR S F2 σ ρ2 H2 r x ∧ RepRs S F2 σ ρ2 H2 rs xs ∧ Wg S W σ F2 ρ2 H2 (M.bnd (look r) (fun d => M.guard (alike d0 d) (M.bnd (looks rs) fun ds => M.opt (mtD m d ds))) ρ2) (GQ S σ H Q)) R1 w fun rs F2 ρ2 H2 xs P rvs _ w =>
      ⟨F2, ρ2, rs, P.rep, rv.mono R1 P, rvs, w⟩
    have qa := (pa_ev h).run cpos pins s1 σ H1 _ I1 q2
    rw [star_ok st0] at qa ⊢
    refine Calls.callWith_builtin hs1 (Calls.evalArgs_plain ?_)
    exact thn qa fun us s2 ⟨xs, H2, I2, r2, q⟩ => hm pins s2 H2 xs us I2 r2 q
  cases d0 <;> first | cases k0 | skip
  · rename_i ds0
    have em : m = "count" := str_beq k0
    subst em
    obtain ⟨a, vs0, rfl, tt, _⟩ := t0
    obtain ⟨t1, t2⟩ := tyZ_is I1 rx (T := "tuple") ⟨a, rfl, .inr ⟨rfl, vs0, hK ▸ tt⟩⟩
    refine ⟨"tuple", "tuple.count", PySem.F.plainAttrs_tuple, PySem.F.slot_tuple_count, PySem.F.type_tuple_count, t1, t2, hA _ fun pins s2 H2 xs us I2 r2 ⟨F2, ρ2, rs, R2, rv2, rvs, w⟩ => ?_⟩
    obtain ⟨d, ed, w⟩ := Wg.look w
    obtain ⟨al, w⟩ := guard_inv w
    have td := peek_top R2 rv2 ed
    obtain ⟨as, ta, w0⟩ := looks_inv (k := fun ds => M.opt (mtD "count" d ds)) R2 rvs w
    clear w
    obtain ⟨z, hz, w⟩ := opt_end w0
    clear w0
    cases d <;> first | cases al | skip
    rename_i ds
    match as, ta, hz with
    | [y], ta, hz =>
      obtain ⟨u, rfl, ty⟩ := tops1 ta
      obtain ⟨f1, f2, rfl⟩ := cnt_inv (show cntD y ds = some z from hz)
      obtain ⟨b, vs, eb, tb, rb⟩ := td
      cases eb
      exact mt_tupCount pins s2 σ H2 _ [u] v us Q I2 rx r2 ⟨a, vs, u, rfl, rfl, hK ▸ tb.seq, flat_rep ty f1, flat_reps rb f2, by rw [countP_reps ty f1 rb f2]; exact Wg.now R2 w _ rfl trivial⟩
  · rename_i ds0
    obtain ⟨a, vs0, rfl, tt, _⟩ := t0
    obtain ⟨t1, t2⟩ := tyZ_is I1 rx (T := "list") ⟨a, rfl, .inl ⟨rfl, vs0, tt⟩⟩
    have k0 : (m == ("count" : Str) || m == ("index" : Str)) = true := k0
    cases hm : m == ("count" : Str) with
    | true =>
      have em : m = "count" := str_beq hm
      subst em
      refine ⟨"list", "list.count", PySem.F.plainAttrs_list, PySem.F.slot_list_count, PySem.F.type_list_count, t1, t2, hA _ fun pins s2 H2 xs us I2 r2 ⟨F2, ρ2, rs, R2, rv2, rvs, w⟩ => ?_⟩
      obtain ⟨d, ed, w⟩ := Wg.look w
      obtain ⟨al, w⟩ := guard_inv w
      have td := peek_top R2 rv2 ed
      obtain ⟨as, ta, w0⟩ := looks_inv (k := fun ds => M.opt (mtD "count" d ds)) R2 rvs w
      clear w
      obtain ⟨z, hz, w⟩ := opt_end w0
      clear w0
      cases d <;> first | cases al | skip
      rename_i ds
      match as, ta, hz with
      | [y], ta, hz =>
        obtain ⟨u, rfl, ty⟩ := tops1 ta
        obtain ⟨f1, f2, rfl⟩ := cnt_inv (show cntD y ds = some z from hz)
        obtain ⟨b, vs, eb, tb, rb⟩ := td
        cases eb
        exact mt_lstCount pins s2 σ H2 _ [u] v us Q I2 rx r2 ⟨a, vs, u, rfl, rfl, SqL.of tb, flat_rep ty f1, flat_reps rb f2, by rw [countP_reps ty f1 rb f2]; exact Wg.now R2 w _ rfl trivial⟩
    | false =>
      rw [hm, Bool.false_or] at k0
      have em : m = "index" := str_beq k0
      subst em
      refine ⟨"list", "list.index", PySem.F.plainAttrs_list, PySem.F.slot_list_index, PySem.F.type_list_index, t1, t2, hA _ fun pins s2 H2 xs us I2 r2 ⟨F2, ρ2, rs, R2, rv2, rvs, w⟩ => ?_⟩
      obtain ⟨d, ed, w⟩ := Wg.look w
      obtain ⟨al, w⟩ := guard_inv w
      have td := peek_top R2 rv2 ed
      obtain ⟨as, ta, w0⟩ := looks_inv (k := fun ds => M.opt (mtD "index" d ds)) R2 rvs w
      clear w
      obtain ⟨z, hz, w⟩ := opt_end w0
      clear w0
      cases d <;> first | cases al | skip
      rename_i ds
      match as, ta, hz with
      | [y], ta, hz =>
        obtain ⟨u, rfl, ty⟩ := tops1 ta
        obtain ⟨f1, f2, j, hj, rfl⟩ := idx_inv (show idxD y ds = some z from hz)
        obtain ⟨b, vs, eb, tb, rb⟩ := td
        cases eb
        obtain ⟨d1, hd1, hd2, hd3⟩ := findIdx_some hj
        have at_ : ∀ {i : Nat} {e : D}, ds[i]? = some e → flatD e = true := fun {i e} he => List.all_eq_true.mp f2 e (List.mem_of_getElem? he)
        obtain ⟨v1, hv1, rv1⟩ := reps_get rb hd1
        refine mt_index pins s2 σ H2 _ [u] v us Q I2 rx r2 ⟨a, vs, u, j, v1, rfl, rfl, SqL.of tb, flat_rep ty f1, flat_reps rb f2, hv1, by rw [eqF_rep (rep_top rv1) ty (at_ hd1) f1]; exact hd2, fun i z' hi hz' => ?_, Wg.now R2 w _ rfl trivial⟩
        obtain ⟨e', he', re'⟩ := reps_getV rb hz'
        rw [eqF_rep (rep_top re') ty (at_ he') f1]
        exact hd3 i e' hi he'
end
end Pyd
end

section
set_option Elab.async false
set_option linter.all false
set_option maxRecDepth 100000
set_option maxHeartbeats 4000000
/-! Pyd, part I: what is walked: lists and tuples, ranges, enumerate, zip. -/
namespace Pyd
open PySem PySem.Spec L2
open PyProof.Rows hiding St

def SqB (b : Bool) (K : PySem.W.Frag) (H : Hp) (a : Addr) (xs : List V) : Prop := match b with
  | true => SqL K H a xs
  | false => SqT K H a xs
def ItB (b : Bool) (h : Heap) (it a : Addr) (i : Nat) : Prop := match b with
  | true => h.IsListIter it a i
  | false => h.IsTupleIter it a i
def HpB (b : Bool) (h : Heap) (a : Addr) (us : Array Value) : Prop := match b with
  | true => h.IsList a us
  | false => h.IsTuple a us
theorem ItB.at {b : Bool} {h h' : Heap} {it a : Addr} {i : Nat} (k : ItB b h it a i) (e : ∀ o, h.get? it = some o → h'.get? it = some o) : ItB b h' it a i := by
  cases b with
  | true => exact Heap.IsListIter.at k e
  | false => exact Heap.IsTupleIter.at k e
theorem ItB.obj {b : Bool} {h : Heap} {it a : Addr} {i : Nat} (k : ItB b h it a i) : ∃ o, h.get? it = some o ∧ ∀ v, o.data ≠ .cell v := by
  cases b with
  | true => obtain ⟨o, e, _, d⟩ := k; exact ⟨o, e, fun v z => by rw [d] at z; cases z⟩
  | false => obtain ⟨o, e, _, d⟩ := k; exact ⟨o, e, fun v z => by rw [d] at z; cases z⟩
theorem ItB.ne {b : Bool} {h : Heap} {it a : Addr} {i : Nat} {us : Array Value} (k : ItB b h it a i) (q : HpB b h a us) : a ≠ it := fun z => by
  cases b with
  | true =>
    obtain ⟨o, e, c, _⟩ := k
    obtain ⟨o', e', c', _⟩ := q
    rw [z, e] at e'
    cases e'
    rw [c] at c'
    exact absurd c' (by decide)
  | false =>
    obtain ⟨o, e, c, _⟩ := k
    obtain ⟨o', e', c', _⟩ := q
    rw [z, e] at e'
    cases e'
    rw [c] at c'
    exact absurd c' (by decide)
theorem draws_B {P : Program} {w : World} {A : Around} {b : Bool} (hh : A.handled = none) {it a : Addr} (ne : a ≠ it) (us : Array Value) :
    Draws P w A.in1 it [it, a] us.size (fun i v => us[i]? = some v) (fun i h => ItB b h it a i ∧ HpB b h a us) := by
  cases b with
  | true => exact Draws.list (A := A.in1) hh it a ne us
  | false => exact Draws.tuple (A := A.in1) hh it a ne us
section
variable {X : Cx} {pins : List (Addr × Obj)} {σ : St} {H : Hp} {s : Shared} {a : Addr} {xs ys : List V} {b : Bool}
theorem inv_B (I : Inv X pins σ H s) (h : SqB b X.K H a xs) : ∃ its : List Value, Vals xs its ∧ HpB b s.heap a its.toArray ∧ a < s.heap.objs.size := by
  cases b with
  | true =>
    obtain ⟨its, r, p, _⟩ := I.list h
    exact ⟨its, r, p.isList, p.lt⟩
  | false =>
    obtain ⟨its, r, p, _⟩ := I.tuple h
    exact ⟨its, r, p, by obtain ⟨o, e, _⟩ := p; exact Heap.lt_size e⟩
theorem inj_B (I : Inv X pins σ H s) (h : SqB b X.K H a xs) (h' : SqB b X.K H a ys) : xs = ys := by
  cases b with
  | true => exact I.list_inj h h'
  | false => exact I.tuple_inj h h'
end
def begOb (b : Bool) (a : Addr) : Obj := match b with
  | true => { cls := .type "list_iterator", data := .fields #[.ref a, .int 0 0] }
  | false => { cls := .type "tuple_iterator", data := .fields #[.ref a, .int 0 0] }
theorem beg_B {b : Bool} {a : Addr} {us : Array Value} : Begins (.ref a) (begOb b a) fun h => HpB b h a us := by
  cases b with
  | true => exact begins_list a us
  | false => exact begins_tuple a us
theorem beg_It {b : Bool} {h : Heap} {it a : Addr} (e : h.get? it = some (begOb b a)) : ItB b h it a 0 := by
  cases b with
  | true => exact ⟨_, e, rfl, rfl⟩
  | false => exact ⟨_, e, rfl, rfl⟩

/-! ### pairs -/
set_option maxHeartbeats 1000000 in
theorem meets_enumerate_one {v : Value} {o : Obj} {H : Heap → Prop} (B : Begins v o H) :
    Meets (Builtin.«enumerate.__new__» ⟨[.type "enumerate", v], []⟩) (fun _ R s => H s.heap ∧
      R (.ok (.ret (.ref (s.heap.push o).objs.size))) { s with heap := (s.heap.push o).push { cls := .type "enumerate", data := .fields #[.none, .bool false, .ref s.heap.objs.size, rawInt 0, .none, .none] } }) :=
  .of_wp fun prog w A R s ho => by
    obtain ⟨hp, g, d, tk, os⟩ := s
    obtain ⟨hH, ho⟩ := ho
    have hsub := sub_enumerate
    have it0 : ∀ {A' : Around} {E : Value → Shared → Prop} {Q : Value → Shared → Prop}, Q (.ref hp.objs.size) ⟨hp.push o, g, d, tk, os⟩ → wpAny (model prog w) A' (pyIter v) Q E ⟨hp, g, d, tk, os⟩ :=
      fun q => B.iter prog w _ _ ⟨hp, g, d, tk, os⟩ _ hH q
    wp_walk using it0
    refine wpAny_stack_any fun st => wpAny_pure ?_
    split
    · rename_i c _ _ _ _ _
      cases (c == Value.type "enumerate") <;> (wp_walk using it0; exact ⟨_, rfl, ho⟩)
    · wp_walk using it0
      exact ⟨_, rfl, ho⟩
theorem enum_begins1 {prog : Program} {w : World} {A : Around} {E : Value → Shared → Prop} {s : Shared} {v : Value} {o : Obj} {H : Heap → Prop} {Q : Value → Shared → Prop} (B : Begins v o H) (h1 : H s.heap)
    (k : ∀ h', IsEnum h' (s.heap.objs.size + 1) s.heap.objs.size 0 .none → h'.get? s.heap.objs.size = some o → h'.objs.size = s.heap.objs.size + 2 →
      (∀ b u, s.heap.get? b = some u → h'.get? b = some u) → Q (.ref (s.heap.objs.size + 1)) { s with heap := h' }) :
    wpAny (model prog w) A (call (.type "enumerate") [v]) Q E s := by
  refine callType_new F.called_enumerate (by decide) (F.typeCall_enumerate_1 _) (F.newCall_enumerate_1 _) (fun obj => F.args_object_init_2 obj _) F.entry_enumerate_new (meets_enumerate_one B) ⟨h1, ?_⟩
  have sz : (s.heap.push o).objs.size = s.heap.objs.size + 1 := Heap.size_push ..
  show _ ∧ _
  rw [sz]
  have he : IsEnum ((s.heap.push o).push { cls := .type "enumerate", data := .fields #[.none, .bool false, .ref s.heap.objs.size, rawInt 0, .none, .none] }) (s.heap.objs.size + 1) s.heap.objs.size 0 .none := by
    have q := Heap.get?_push_size (s.heap.push o) (o := { cls := .type "enumerate", data := .fields #[.none, .bool false, .ref s.heap.objs.size, rawInt 0, .none, .none] }) rfl
    rw [sz] at q
    exact q
  exact ⟨⟨_, he, rfl⟩, k _ he (Heap.get?_push_of_some _ (Heap.get?_push_size _ B.free)) (by rw [Heap.size_push, sz]) fun b u x => Heap.get?_push_of_some _ (Heap.get?_push_of_some _ x)⟩
def IzE (b : Bool) (K : PySem.W.Frag) (a : Addr) : It :=
  ⟨fun i H => ∃ (xs : List V) (x : V), SqB b K H a xs ∧ xs[i]? = some x,
    fun i H v H' => ∃ T ob x, v = .ref T ∧ H T = none ∧ ob.dict = Option.none ∧ H' = upd H T (.frz ob (.tup [.int (i : Nat), x])) ∧ ∀ xs, SqB b K H a xs → xs[i]? = some x,
    fun i H => ∃ xs : List V, SqB b K H a xs ∧ xs.length = i⟩
theorem turn_enB {P : Program} {w : World} {K : PySem.W.Frag} {elts : List Expr} {kk : Nat} {tpos : Pos} (b : Bool) (a e it : Addr) (nea : a ≠ e) :
    Turn P w K (.Tuple elts kk tpos) (IzE b K a) [e, it] e (fun i h => (∃ old, IsEnum h e it ((i : Nat) : Int) old) ∧ ItB b h it a i ∧ e ≠ it) where
  mem := by simp
  obj := fun i h st c hc => by
    obtain ⟨⟨old, he⟩, hi, _⟩ := st
    rcases (show c = e ∨ c = it by simpa using hc) with z | z
    · subst z; exact ⟨_, he, fun v q => nomatch q⟩
    · subst z; exact hi.obj
  keep := fun i h h' ⟨⟨old, he⟩, hi, hne⟩ k => ⟨⟨old, k e (by simp) _ he⟩, hi.at fun o q => k it (by simp) o q, hne⟩
  item := by
    intro X hP hw hK hc i pins s σ H E I hf st hg
    subst hP hw hK
    obtain ⟨⟨old, he⟩, hit, hne⟩ := st
    obtain ⟨xs, x, hq, hx⟩ := hg
    obtain ⟨its, rv, p, _⟩ := inv_B I hq
    obtain ⟨u, hu, ru⟩ := rv.get hx
    have hel : e < s.heap.objs.size := Heap.lt_size he
    have hil : it < s.heap.objs.size := by obtain ⟨o, q, _⟩ := hit.obj; exact Heap.lt_size q
    have nai := hit.ne p
    refine wpAny_pyNext_enum_itemC (draws_B (b := b) (I.ok.hd hc) nai its.toArray) he ⟨hit, p⟩ (by
      have hi' := (List.getElem?_eq_some_iff.mp hu).1
      simpa using hi') hne (by simp [hne, Ne.symm nea]) fun y h' tk hy ho hit' hT hsz hk => ?_
    have ey : y = u := by
      rw [List.getElem?_toArray, hu] at hy
      exact (Option.some.inj hy).symm
    subst ey
    refine ⟨_, rfl, wpAny_letOwnedTupleGo_enum (s := { s with heap := h', toks := tk + 1 }) ho fun h'' he' sb => ?_⟩
    have hT2 : h''.get? s.heap.objs.size = some { cls := .type "tuple", data := .seq #[.int i tk, y] } := (sb.2 _ (Nat.ne_of_gt hel)).trans hT
    have nw : ObjOk X.prog X.w (upd H s.heap.objs.size (.frz { cls := .type "tuple", data := .seq #[.int i tk, y] } (.tup [.int (i : Nat), x]))) h'' s.heap.objs.size (.frz { cls := .type "tuple", data := .seq #[.int i tk, y] } (.tup [.int (i : Nat), x])) :=
      ⟨hT2, show 2 ≤ sizeLine by decide, [.int i tk, y], .cons ⟨_, rfl⟩ (.cons ru .nil), ⟨_, hT2, rfl, _, rfl⟩⟩
    have I1 := I.turnedNew (t' := tk + 1) (ch := [e, it]) (fun c ob hb q => (sb.2 c (fun z => hb (by simp [z]))).trans (hk c ob (fun z => hb (by simp [z])) (fun z => hb (by simp [z])) q)) hf (Nat.le_refl _) nw
    refine ⟨.ref s.heap.objs.size, _, I1, rfl, ⟨_, _, x, rfl, I.hok.fresh (Nat.le_refl _), rfl, rfl, fun ys hy => by rw [inj_B I hy hq]; exact hx⟩, ⟨⟨y, ?_⟩, hit'.1.at fun o q => (sb.2 it (Ne.symm hne)).trans q, hne⟩, fun c hb => ?_⟩
    · have e1 : ((i + 1 : Nat) : Int) = (i : Int) + 1 := by omega
      rw [e1]; exact he'
    · have hb' : c < s.heap.objs.size := by
        rcases (show c = e ∨ c = it by simpa using hb) with z | z
        · subst z; exact hel
        · subst z; exact hil
      rw [upd_ne (Nat.ne_of_lt hb')]
      exact (hf c hb).1
  done := by
    intro X hP hw hK hc i pins s σ H E I hf st hg
    subst hP hw hK
    obtain ⟨⟨old, he⟩, hit, hne⟩ := st
    obtain ⟨xs, hq, hx⟩ := hg
    obtain ⟨its, rv, p, _⟩ := inv_B I hq
    obtain ⟨f0, f1, f2, f3, f4, f5⟩ := hf it (by simp)
    have hl : its.toArray.size = i := by rw [List.size_toArray, ← rv.length]; exact hx
    have D := draws_B (P := X.prog) (w := X.w) (b := b) (I.ok.hd hc) (hit.ne p) its.toArray
    rw [hl] at D
    exact wpAny_pyNext_enum_endD D he ⟨hit, p⟩ fun h' eb => ⟨rfl, I.turned (t' := s.toks) (fun c o hb q => eb c o hb q) f0 f1 f3 f4 f5⟩
  self := fun A i s Q E ⟨⟨_, he⟩, _⟩ h => wpAny_pyIter_enum he h
def IzP (b c : Bool) (K : PySem.W.Frag) (a d : Addr) : It :=
  ⟨fun i H => ∃ (xs ys : List V) (x y : V), SqB b K H a xs ∧ SqB c K H d ys ∧ xs[i]? = some x ∧ ys[i]? = some y,
    fun i H v H' => ∃ T ob x y, v = .ref T ∧ H T = none ∧ ob.dict = Option.none ∧ H' = upd H T (.frz ob (.tup [x, y])) ∧ (∀ xs, SqB b K H a xs → xs[i]? = some x) ∧ ∀ ys, SqB c K H d ys → ys[i]? = some y,
    fun i H => ∃ xs ys : List V, SqB b K H a xs ∧ SqB c K H d ys ∧ min xs.length ys.length = i⟩
theorem turn_zpB {P : Program} {w : World} {K : PySem.W.Frag} {elts : List Expr} {kk : Nat} {tpos : Pos} {b c : Bool} {a d z TI TO i1 i2 : Addr} (D : ZipSep2 z TI TO i1 i2 [i1, a] [i2, d]) :
    Turn P w K (.Tuple elts kk tpos) (IzP b c K a d) [z, TI, TO, i1, i2] z (fun i h => IsZip h z TI TO .none ∧ IsTupOf2 h TI (.ref i1) (.ref i2) ∧ (∃ x y, IsTupOf2 h TO x y) ∧ ItB b h i1 a i ∧ ItB c h i2 d i) where
  mem := by simp
  obj := fun i h ⟨hz, hTI, ⟨x, y, hTO⟩, h1, h2⟩ m hm => by
    rcases (show m = z ∨ m = TI ∨ m = TO ∨ m = i1 ∨ m = i2 by simpa using hm) with q | q | q | q | q <;> subst q
    · exact ⟨_, hz, fun v q => nomatch q⟩
    · exact ⟨_, hTI, fun v q => nomatch q⟩
    · exact ⟨_, hTO, fun v q => nomatch q⟩
    · exact h1.obj
    · exact h2.obj
  keep := fun i h h' ⟨hz, hTI, ⟨x, y, hTO⟩, h1, h2⟩ k =>
    ⟨k z (by simp) _ hz, k TI (by simp) _ hTI, ⟨x, y, k TO (by simp) _ hTO⟩, h1.at fun o q => k i1 (by simp) o q, h2.at fun o q => k i2 (by simp) o q⟩
  item := by
    intro X hP hw hK hc i pins s σ H E I hf st hg
    subst hP hw hK
    obtain ⟨hz, hTI, ⟨x0, y0, hTO⟩, h1, h2⟩ := st
    obtain ⟨xs, ys, x, y, hqx, hqy, hx, hy⟩ := hg
    obtain ⟨its, rv, p, _⟩ := inv_B I hqx
    obtain ⟨its2, rv2, p2, _⟩ := inv_B I hqy
    obtain ⟨u, hu, ru⟩ := rv.get hx
    obtain ⟨u2, hu2, ru2⟩ := rv2.get hy
    have hzl : z < s.heap.objs.size := Heap.lt_size hz
    refine wpAny_pyNext_zipD2_item D (draws_B (b := b) (I.ok.hd hc) (h1.ne p) its.toArray) (draws_B (b := c) (I.ok.hd hc) (h2.ne p2) its2.toArray) hz hTI hTO ⟨h1, p⟩ ⟨h2, p2⟩
      (by simpa using (List.getElem?_eq_some_iff.mp hu).1) (by simpa using (List.getElem?_eq_some_iff.mp hu2).1) fun v1 v2 h' tk hv1 hv2 z' TO' h1' h2' hT hsz hk => ?_
    have e1 : v1 = u := by
      rw [List.getElem?_toArray, hu] at hv1
      exact (Option.some.inj hv1).symm
    have e2 : v2 = u2 := by
      rw [List.getElem?_toArray, hu2] at hv2
      exact (Option.some.inj hv2).symm
    subst e1
    subst e2
    refine ⟨_, rfl, wpAny_letOwnedTupleGo_zip (s := { s with heap := h', toks := tk }) z' fun h'' z'' sb => ?_⟩
    have hT2 : h''.get? s.heap.objs.size = some { cls := .type "tuple", data := .seq #[v1, v2] } := (sb.2 _ (Nat.ne_of_gt hzl)).trans hT
    have nw : ObjOk X.prog X.w (upd H s.heap.objs.size (.frz { cls := .type "tuple", data := .seq #[v1, v2] } (.tup [x, y]))) h'' s.heap.objs.size (.frz { cls := .type "tuple", data := .seq #[v1, v2] } (.tup [x, y])) :=
      ⟨hT2, show 2 ≤ sizeLine by decide, [v1, v2], .cons ru (.cons ru2 .nil), ⟨_, hT2, rfl, _, rfl⟩⟩
    have I1 := I.turnedNew (t' := tk) (ch := [z, TI, TO, i1, i2]) (fun m o hb q => (sb.2 m (fun q' => hb (by simp [q']))).trans (hk m o (fun q' => hb (by simp [q'])) (fun q' => hb (by simp [q'])) (fun q' => hb (by simp [q'])) (fun q' => hb (by simp [q'])) q)) hf (Nat.le_refl _) nw
    refine ⟨.ref s.heap.objs.size, _, I1, rfl, ⟨_, _, x, y, rfl, I.hok.fresh (Nat.le_refl _), rfl, rfl, fun l hl => by rw [inj_B I hl hqx]; exact hx, fun l hl => by rw [inj_B I hl hqy]; exact hy⟩, ⟨z'', ?_, ⟨v1, v2, ?_⟩, ?_, ?_⟩, fun m hm => ?_⟩
    · exact (sb.2 _ D.TIz).trans (hk _ _ D.TIz D.TITO D.TIi1 D.TIi2 hTI)
    · exact (sb.2 _ D.TOz).trans TO'
    · exact h1'.1.at fun o q => (sb.2 _ (Ne.symm D.zi1)).trans q
    · exact h2'.1.at fun o q => (sb.2 _ (Ne.symm D.zi2)).trans q
    · have hlt : m < s.heap.objs.size := by
        rcases (show m = z ∨ m = TI ∨ m = TO ∨ m = i1 ∨ m = i2 by simpa using hm) with q | q | q | q | q <;> subst q
        · exact hzl
        · exact Heap.lt_size hTI
        · exact Heap.lt_size hTO
        · obtain ⟨_, e1, _⟩ := h1.obj; exact Heap.lt_size e1
        · obtain ⟨_, e2, _⟩ := h2.obj; exact Heap.lt_size e2
      rw [upd_ne (Nat.ne_of_lt hlt)]
      exact (hf m hm).1
  done := by
    intro X hP hw hK hc i pins s σ H E I hf st hg
    subst hP hw hK
    obtain ⟨hz, hTI, ⟨x0, y0, hTO⟩, h1, h2⟩ := st
    obtain ⟨xs, ys, hqx, hqy, hend⟩ := hg
    obtain ⟨its, rv, p, _⟩ := inv_B I hqx
    obtain ⟨its2, rv2, p2, _⟩ := inv_B I hqy
    have l1 := rv.length
    have l2 := rv2.length
    exact wpAny_pyNext_zipD2_end D (draws_B (b := b) (I.ok.hd hc) (h1.ne p) its.toArray) (draws_B (b := c) (I.ok.hd hc) (h2.ne p2) its2.toArray) hz hTI hTO ⟨h1, p⟩ ⟨h2, p2⟩ (by simp; omega) (by simp; omega) (by simp; omega)
      fun h' tk hk => ⟨rfl, I.turnedL (t' := tk) (ch := [z, TI, TO, i1, i2]) (fun m o hb q =>
      hk m o (fun q' => hb (by simp [q'])) (fun q' => hb (by simp [q'])) (fun q' => hb (by simp [q'])) (fun q' => hb (by simp [q'])) q) hf⟩
  self := fun A i s Q E st h => wpAny_pyIter_zip st.1 h
section
variable {X : Cx} {tg : Expr}
def ItSq (b : Bool) (K : PySem.W.Frag) (a : Addr) : It := match b with
  | true => Itl K a
  | false => Itt K a
def iSeqB (K : PySem.W.Frag) (tl : TE) : TI := fun σ H R => tl σ H fun x H1 => ∃ b a xs, x = .ref a ∧ SqB b K H1 a xs ∧ R (ItSq b K a) H1
theorem pi_seqB {l : Expr} {tl : TE} (hl : PE X l tl) : PI X tg l (iSeqB X.K tl) := by
  refine ⟨fun pins s σ H R I h => ?_⟩
  refine thn (hl.run pins s σ H _ I h) fun v s1 ⟨x, H1, I1, r1, b, a, xs, e, hq, q⟩ => ?_
  subst e
  cases r1
  have fp : ∀ c ∈ [s1.heap.objs.size], FpOk X pins H1 c := fun c hc => by
    have e : c = s1.heap.objs.size := by simpa using hc
    subst e
    exact I1.fpOk (Nat.le_refl _) (I1.hok.fresh (Nat.le_refl _))
  cases b with
  | true =>
    obtain ⟨its, rv, p, _⟩ := I1.list hq
    exact wpAny_pyIter_list p.isList ⟨s1.heap.objs.size, [s1.heap.objs.size], _, _, H1, rfl, I1.kept (t' := s1.toks) fun _ _ e => Heap.get?_push_of_some _ e, turn_list a _, ⟨_, Heap.get?_push_size _ rfl, rfl, rfl⟩, fp, q⟩
  | false =>
    obtain ⟨its, rv, p, _⟩ := I1.tuple hq
    exact wpAny_pyIter_tuple (show s1.heap.IsTuple a its.toArray from p) ⟨s1.heap.objs.size, [s1.heap.objs.size], _, _, H1, rfl, I1.kept (t' := s1.toks) fun _ _ e => Heap.get?_push_of_some _ e, turn_tuple a _, ⟨_, Heap.get?_push_size _ rfl, rfl, rfl⟩, fp, q⟩
def iEnB (K : PySem.W.Frag) (ta : TA) : TI := fun σ H R => ta σ H fun vs H1 => ∃ b a xs, vs = [.ref a] ∧ SqB b K H1 a xs ∧ R (IzE b K a) H1
theorem pi_enB {e : Expr} {ta : TA} {p pos tpos : Pos} {elts : List Expr} {kk : Nat} (hg : Gl X "enumerate") (hm : X.mg "enumerate" = none) (ha : PA X [e] ta) (hs : starEach [e] X.env = [(false, eval e X.env)]) :
    PI X (.Tuple elts kk tpos) (.Call (.Name "enumerate" p) [e] [] pos) (iEnB X.K ta) := by
  refine ⟨fun pins s σ H R I h => ?_⟩
  refine Call_ (ld_blt I hg hm boot_enumerate (PyProof.Rows.callWith_type1 (thn (ha.run pos pins s σ H _ I h) fun us s1 ⟨vs, H1, I1, r1, b, a, xs, ex, hq, q⟩ => ?_) hs rfl))
  subst ex
  obtain ⟨u, rfl, rx⟩ := vals1 r1
  cases rx
  obtain ⟨its, rv, p', la⟩ := inv_B I1 hq
  refine enum_begins1 (beg_B (b := b) (a := a) (us := its.toArray)) p' fun h' he hit hsz hk => wpAny_pyIter_enum he ?_
  have I2 : Inv X pins σ H1 { s1 with heap := h' } := I1.kept (t' := s1.toks) hk
  refine ⟨s1.heap.objs.size + 1, [s1.heap.objs.size + 1, s1.heap.objs.size], _, _, H1, rfl, I2, turn_enB b a (s1.heap.objs.size + 1) s1.heap.objs.size (Nat.ne_of_lt (Nat.lt_succ_of_lt la)), ⟨⟨.none, he⟩, beg_It hit, Nat.succ_ne_self _⟩, fun c hc => ?_, q⟩
  have hle : s1.heap.objs.size ≤ c := by
    rcases (show c = s1.heap.objs.size + 1 ∨ c = s1.heap.objs.size by simpa using hc) with z | z <;> (rw [z]; first | exact Nat.le_add_right _ _ | exact Nat.le_refl _)
  exact I1.fpOk hle (I1.hok.fresh hle)
def iZpB (K : PySem.W.Frag) (ta : TA) : TI := fun σ H R => ta σ H fun vs H1 => ∃ b c a d xs ys, vs = [.ref a, .ref d] ∧ SqB b K H1 a xs ∧ SqB c K H1 d ys ∧ R (IzP b c K a d) H1
theorem pi_zpB {e e2 : Expr} {ta : TA} {p pos tpos : Pos} {elts : List Expr} {kk : Nat} (hg : Gl X "zip") (hm : X.mg "zip" = none) (ha : PA X [e, e2] ta)
    (hs : starEach [e, e2] X.env = (false, eval e X.env) :: starEach [e2] X.env) (hpl : (backTo pos (starEach [e2] X.env)).any (·.1) = false) :
    PI X (.Tuple elts kk tpos) (.Call (.Name "zip" p) [e, e2] [] pos) (iZpB X.K ta) := by
  refine ⟨fun pins s σ H R I h => ?_⟩
  refine Call_ (ld_blt I hg hm PyProof.Rows.boot_zip (PyProof.Rows.callWith_type1 (thn (ha.run pos pins s σ H _ I h) fun us s1 ⟨vs, H1, I1, r1, b, c, a, d, xs, ys, ex, hqx, hqy, q⟩ => ?_) hs hpl))
  subst ex
  obtain ⟨u, u', rfl, rx, rx'⟩ := vals2 r1
  cases rx
  cases rx'
  obtain ⟨its, rv, p1, la⟩ := inv_B I1 hqx
  obtain ⟨its2, rv2, p2, lb⟩ := inv_B I1 hqy
  refine zip_begins2 (beg_B (b := b) (a := a) (us := its.toArray)) (beg_B (b := c) (a := d) (us := its2.toArray)) p1 p2 fun h' hz hTI hTO h1 h2 hsz hk => wpAny_pyIter_zip hz ?_
  have I2 : Inv X pins σ H1 { s1 with heap := h' } := I1.kept (t' := s1.toks) hk
  refine ⟨s1.heap.objs.size + 4, [s1.heap.objs.size + 4, s1.heap.objs.size + 2, s1.heap.objs.size + 3, s1.heap.objs.size, s1.heap.objs.size + 1], _, _, H1, rfl, I2,
    turn_zpB (zip_sep2 (N := s1.heap.objs.size) (fp1 := [a]) (fp2 := [d]) (by simpa using la) (by simpa using lb)), ⟨hz, hTI, ⟨_, _, hTO⟩, beg_It h1, beg_It h2⟩, fun m hm => ?_, q⟩
  have hle : s1.heap.objs.size ≤ m := by
    rcases (show m = s1.heap.objs.size + 4 ∨ m = s1.heap.objs.size + 2 ∨ m = s1.heap.objs.size + 3 ∨ m = s1.heap.objs.size ∨ m = s1.heap.objs.size + 1 by simpa using hm) with z | z | z | z | z <;> (rw [z]; first | exact Nat.le_add_right _ _ | exact Nat.le_refl _)
  exact I1.fpOk hle (I1.hok.fresh hle)
end
end Pyd
end

section
set_option Elab.async false
set_option linter.all false
set_option maxRecDepth 100000
set_option maxHeartbeats 4000000
/-! Pyd, part J: statements and targets: readings, stores. -/
namespace Pyd
open PySem PySem.Spec L2
open PyProof.Rows hiding St
section
variable (S : Sx) (W : WX)
/-- what is wanted of an end behind which the frame may stand otherwise -/
def WgS {α : Type} (σ : St) (F : Fz) (ρ : List Sl) (H : Hp) (out : Out α) (G : α → St → Fz → List Sl → Hp → Prop) : Prop := match out with
  | .ok a ρ' => ∀ σ' F' H', Post S F σ ρ H F' σ' ρ' H' → G a σ' F' ρ' H'
  | .exc c x ρ' => ∀ σ' F' H' cls d, Post S F σ ρ H F' σ' ρ' H' → ExcR S F' H' c x cls d → W cls d σ' H'
  | .bad => False
/-- behind a statement -/
def GS (H : Hp) (D : Ends) : Pyd.Flow → St → Fz → List Sl → Hp → Prop := fun fl σ' F' ρ' H' => match fl with
  | .nx => D.nx σ' H'
  | .ret r => ∀ v, RepR S F' σ' ρ' H' r v → New H r v → D.rt v H'
def tS (m : M Pyd.Flow) : TS := fun D σ H => ∃ F ρ, SRep S F σ ρ H ∧ WgS S W σ F ρ H (m ρ) (GS S H D)
/-- how a value is stored -/
def StoR (F : Fz) (σ : St) (ρ : List Sl) (H : Hp) (s : Sl) (v : V) : Prop := match s with
  | .val d => rep S F H d v
  | .own o => ∃ a, v = .ref a ∧ ¬ F a ∧ ¬ OA σ ρ a ∧ obj S F H o a
  | _ => False
def NewS (H : Hp) (s : Sl) (v : V) : Prop := match s with
  | .own _ => ∀ a, v = .ref a → Nn H a
  | _ => True
end
section
variable {S : Sx} {W : WX} {σ σ0 σ1 : St} {F F0 F1 : Fz} {ρ ρ0 ρ1 : List Sl} {H H0 H1 : Hp} {α β : Type}
theorem WgS.imp {out : Out α} {G G' : α → St → Fz → List Sl → Hp → Prop} (h : WgS S W σ F ρ H out G) (i : ∀ a σ' F' ρ' H', Post S F σ ρ H F' σ' ρ' H' → G a σ' F' ρ' H' → G' a σ' F' ρ' H') : WgS S W σ F ρ H out G' := by
  cases out with
  | ok a ρ' => exact fun σ' F' H' p => i a σ' F' ρ' H' p (h σ' F' H' p)
  | exc c x ρ' => exact h
  | bad => exact h
theorem WgS.shift {out : Out α} {G : α → St → Fz → List Sl → Hp → Prop} (p : Post S F0 σ0 ρ0 H0 F σ ρ H) (h : WgS S W σ0 F0 ρ0 H0 out G) : WgS S W σ F ρ H out G := by
  cases out with
  | ok a ρ' => exact fun σ' F' H' q => h σ' F' H' (p.trans q)
  | exc c x ρ' => exact fun σ' F' H' cls d q => h σ' F' H' cls d (p.trans q)
  | bad => exact h
/-- a statement, then another -/
theorem WgS.bnd0 {m : M α} {k : α → M β} {G : β → St → Fz → List Sl → Hp → Prop} {ρ' : List Sl} (h : WgS S W σ F ρ H (M.bnd m k ρ') G) : WgS S W σ F ρ H (m ρ') (fun a _ _ ρ1 _ => WgS S W σ F ρ H (k a ρ1) G) := by
  unfold M.bnd at h
  cases e : m ρ' with
  | bad => rw [e] at h; exact h
  | exc c x ρ1 => rw [e] at h; exact h
  | ok a ρ1 => rw [e] at h; exact fun _ _ _ _ => h
/-- an expression, then a statement -/
theorem WgS.bndE {m : M α} {k : α → M β} {G : β → St → Fz → List Sl → Hp → Prop} {ρ' : List Sl} (h : WgS S W σ0 F0 ρ0 H0 (M.bnd m k ρ') G) (P : Post S F0 σ0 ρ0 H0 F σ ρ' H) : Wg S W σ F ρ' H (m ρ') (fun a _ ρ1 _ => WgS S W σ0 F0 ρ0 H0 (k a ρ1) G) := by
  unfold M.bnd at h
  cases e : m ρ' with
  | bad => rw [e] at h; exact h
  | exc c x ρ1 => rw [e] at h; exact fun F' H' cls d q hx => h σ F' H' cls d (P.trans q) hx
  | ok a ρ1 => rw [e] at h; exact fun _ _ _ => h
theorem WgS.ok {a : α} {G : α → St → Fz → List Sl → Hp → Prop} (h : WgS S W σ0 F0 ρ0 H0 (.ok a ρ) G) (P : Post S F0 σ0 ρ0 H0 F σ ρ H) : G a σ F ρ H := h σ F H P
theorem WgS.guard {b : Bool} {m : M α} {G : α → St → Fz → List Sl → Hp → Prop} (h : WgS S W σ0 F0 ρ0 H0 (M.guard b m ρ) G) : b = true ∧ WgS S W σ0 F0 ρ0 H0 (m ρ) G := by
  cases b with
  | true => exact ⟨rfl, h⟩
  | false => exact h.elim
theorem WgS.bnd_ok {m : M α} {k : α → M β} {G : β → St → Fz → List Sl → Hp → Prop} (h : WgS S W σ0 F0 ρ0 H0 (M.bnd m k ρ) G) (ne : ∀ c x ρ', m ρ ≠ .exc c x ρ') : ∃ a ρ1, m ρ = .ok a ρ1 ∧ WgS S W σ0 F0 ρ0 H0 (k a ρ1) G := by
  unfold M.bnd at h
  cases e : m ρ with
  | bad => rw [e] at h; exact h.elim
  | exc c x ρ' => exact (ne c x ρ' e).elim
  | ok a ρ1 => rw [e] at h; exact ⟨a, ρ1, rfl, h⟩
theorem run_ES {m : M Rv} {k : Rv → M β} {G : β → St → Fz → List Sl → Hp → Prop} {Q : VK} (P : Post S F0 σ0 ρ0 H0 F σ ρ H) (h : WgS S W σ0 F0 ρ0 H0 (M.bnd m k ρ) G)
    (i : ∀ r F1 ρ1 H1 v, Post S F0 σ0 ρ0 H0 F1 σ ρ1 H1 → RepR S F1 σ ρ1 H1 r v → New H r v → WgS S W σ0 F0 ρ0 H0 (k r ρ1) G → Q v H1) : tE S W m σ H Q :=
  ⟨F, ρ, P.rep, (h.bndE P).imp fun r F1 ρ1 H1 p w v rv nv => i r F1 ρ1 H1 v (P.trans p) rv nv w⟩
theorem run_TS {m : M Bool} {k : Bool → M β} {G : β → St → Fz → List Sl → Hp → Prop} {Q : Bool → Hp → Prop} (P : Post S F0 σ0 ρ0 H0 F σ ρ H) (h : WgS S W σ0 F0 ρ0 H0 (M.bnd m k ρ) G)
    (i : ∀ b F1 ρ1 H1, Post S F0 σ0 ρ0 H0 F1 σ ρ1 H1 → WgS S W σ0 F0 ρ0 H0 (k b ρ1) G → Q b H1) : tT S W m σ H Q :=
  ⟨F, ρ, P.rep, (h.bndE P).imp fun b F1 ρ1 H1 p w => i b F1 ρ1 H1 (P.trans p) w⟩
theorem run_AS {m : M (List Rv)} {k : List Rv → M β} {G : β → St → Fz → List Sl → Hp → Prop} {Q : List V → Hp → Prop} (P : Post S F0 σ0 ρ0 H0 F σ ρ H) (h : WgS S W σ0 F0 ρ0 H0 (M.bnd m k ρ) G)
    (i : ∀ rs F1 ρ1 H1 vs, Post S F0 σ0 ρ0 H0 F1 σ ρ1 H1 → RepRs S F1 σ ρ1 H1 rs vs → News H rs vs → WgS S W σ0 F0 ρ0 H0 (k rs ρ1) G → Q vs H1) : tA S W m σ H Q :=
  ⟨F, ρ, P.rep, (h.bndE P).imp fun rs F1 ρ1 H1 p w vs rv nv => i rs F1 ρ1 H1 vs (P.trans p) rv nv w⟩
/-- a statement within a statement -/
theorem run_SS {m : M Pyd.Flow} {k : Pyd.Flow → M β} {G : β → St → Fz → List Sl → Hp → Prop} {D : Ends} (P : Post S F0 σ0 ρ0 H0 F σ ρ H) (h : WgS S W σ0 F0 ρ0 H0 (M.bnd m k ρ) G)
    (i : ∀ fl σ1 F1 ρ1 H1, Post S F0 σ0 ρ0 H0 F1 σ1 ρ1 H1 → WgS S W σ0 F0 ρ0 H0 (k fl ρ1) G → GS S H D fl σ1 F1 ρ1 H1) : tS S W m D σ H :=
  ⟨F, ρ, P.rep, (h.bnd0.shift P).imp fun fl σ1 F1 ρ1 H1 p w => i fl σ1 F1 ρ1 H1 (P.trans p) w⟩
/-- .. as the last -/
theorem end_SS {m : M Pyd.Flow} {D : Ends} (P : Post S F0 σ0 ρ0 H0 F σ ρ H) (h : WgS S W σ0 F0 ρ0 H0 (m ρ) (GS S H0 D)) : tS S W m D σ H :=
  ⟨F, ρ, P.rep, (h.shift P).imp fun fl σ1 F1 ρ1 H1 p w => by
    cases fl with
    | nx => exact w
    | ret r => exact fun v rv nv => w v rv (nv.back P.step)⟩
theorem New.back2 {r : Rv} {v : V} (P : Post S F0 σ0 ρ0 H0 F σ ρ H) (n : New H r v) : New H0 r v := n.back P.step
theorem NewS.back {s : Sl} {v : V} (P : Post S F0 σ0 ρ0 H0 F σ ρ H) (n : NewS H s v) : NewS H0 s v := by
  cases s with
  | own o => exact fun a e => P.step.none (n a e)
  | emp => trivial
  | val d => trivial
  | bor o => trivial

/-! ### a name is stored -/
theorem own_set {i j : Nat} {s : Sl} (h : OwnAt (ρ.set i s) j) : (j = i ∧ ∃ o, s = .own o ∨ s = .bor o) ∨ (j ≠ i ∧ OwnAt ρ j) := by
  obtain ⟨o, ho⟩ := h
  by_cases e : i = j
  · subst e
    by_cases hl : i < ρ.length
    · rw [List.getElem?_set_self hl] at ho
      exact .inl ⟨rfl, o, ho.elim (fun z => .inl (Option.some.inj z)) fun z => .inr (Option.some.inj z)⟩
    · rw [List.getElem?_eq_none (by rw [List.length_set]; omega)] at ho
      rcases ho with z | z <;> cases z
  · rw [List.getElem?_set_ne e] at ho
    exact .inr ⟨Ne.symm e, o, ho⟩
theorem post_store {i : Nat} {s s' : Sl} {v : V} (P : Post S F0 σ0 ρ0 H0 F σ ρ H) (hs : ρ[i]? = some s') (nb : ∀ o, s' ≠ .bor o) (r : StoR S F σ ρ H s v) (n : NewS H0 s v) : Post S F0 σ0 ρ0 H0 F (σ.set i (some v)) (ρ.set i s) H := by
  have R := P.rep
  have hi : i < ρ.length := (List.getElem?_eq_some_iff.mp hs).1
  have hσ : i < σ.length := by rw [R.len]; exact hi
  have nob : ∀ o, s ≠ .bor o := fun o z => by subst z; exact r
  have atI : ∀ a, OwnAt (ρ.set i s) i → (σ.set i (some v))[i]? = some (some (.ref a)) → Nn H0 a ∧ ¬ OA σ ρ a := fun a oi ei => by
    rw [List.getElem?_set_self hσ] at ei
    have ev : v = .ref a := by cases ei; rfl
    rcases own_set oi with ⟨_, o, z | z⟩ | ⟨z, _⟩
    · subst z
      obtain ⟨b, eb, _, no, _⟩ := r
      rw [ev] at eb
      cases eb
      exact ⟨n a ev, no⟩
    · exact absurd z (nob o)
    · exact absurd rfl z
  have other : ∀ (j : Nat) a, j ≠ i → OwnAt (ρ.set i s) j → (σ.set i (some v))[j]? = some (some (.ref a)) → OwnAt ρ j ∧ σ[j]? = some (some (.ref a)) := fun j a ne oj ej => by
    rw [List.getElem?_set_ne (Ne.symm ne)] at ej
    rcases own_set oj with ⟨z, _⟩ | ⟨_, z⟩
    · exact absurd z ne
    · exact ⟨z, ej⟩
  refine ⟨P.step, ⟨by rw [List.length_set, List.length_set]; exact R.len, fun j t hj => ?_, fun j l a oj ol ej el => ?_, R.fz, R.tabs⟩, fun a ⟨j, oj, ej⟩ => ?_, fun j o hj => ?_⟩
  · by_cases z : i = j
    · subst z
      rw [List.getElem?_set_self hi] at hj
      cases hj
      cases s with
      | emp => exact r.elim
      | bor o => exact r.elim
      | val d => exact ⟨v, List.getElem?_set_self hσ, r⟩
      | own o =>
        obtain ⟨a, ea, nf, _, q⟩ := r
        exact ⟨a, by rw [List.getElem?_set_self hσ, ea], nf, q⟩
    · rw [List.getElem?_set_ne z] at hj
      have q := R.all j t hj
      cases t with
      | emp => trivial
      | val d => obtain ⟨w, e1, e2⟩ := q; exact ⟨w, by rw [List.getElem?_set_ne z]; exact e1, e2⟩
      | own o => obtain ⟨w, e1, e2, e3⟩ := q; exact ⟨w, by rw [List.getElem?_set_ne z]; exact e1, e2, e3⟩
      | bor o => obtain ⟨w, e1, e2, e3⟩ := q; exact ⟨w, by rw [List.getElem?_set_ne z]; exact e1, e2, e3⟩
  · by_cases zj : j = i
    · subst zj
      by_cases zl : l = j
      · exact zl.symm
      · obtain ⟨ol', el'⟩ := other l a zl ol el
        exact absurd ⟨l, ol', el'⟩ (atI a oj ej).2
    · obtain ⟨oj', ej'⟩ := other j a zj oj ej
      by_cases zl : l = i
      · subst zl
        exact absurd ⟨j, oj', ej'⟩ (atI a ol el).2
      · obtain ⟨ol', el'⟩ := other l a zl ol el
        exact R.inj j l a oj' ol' ej' el'
  · by_cases z : j = i
    · subst z
      exact .inr (atI a oj ej).1
    · obtain ⟨oj', ej'⟩ := other j a z oj ej
      exact P.oa a ⟨j, oj', ej'⟩
  · obtain ⟨o', h1, h2⟩ := P.bor j o hj
    have z : i ≠ j := fun z => by
      subst z
      rw [hs] at h1
      exact nb o' (Option.some.inj h1)
    exact ⟨o', by rw [List.getElem?_set_ne z]; exact h1, by rw [List.getElem?_set_ne z]; exact h2⟩
theorem storeAt_inv {i : Nat} {s : Sl} {G : Unit → St → Fz → List Sl → Hp → Prop} (h : WgS S W σ0 F0 ρ0 H0 (storeAt i s ρ) G) : ∃ s', ρ[i]? = some s' ∧ (∀ o, s' ≠ .bor o) ∧ WgS S W σ0 F0 ρ0 H0 (.ok () (ρ.set i s)) G := by
  unfold storeAt at h
  split at h
  · exact h.elim
  · rename_i s' nb e
    exact ⟨s', e, fun o z => nb o z, h⟩
  · exact h.elim
/-- a result is made ready to be stored -/
def IsOwnS : Sl → Prop
  | .own _ => True
  | _ => False
theorem toSl_post {r : Rv} {v : V} {s : Sl} {ρ' : List Sl} (P : Post S F0 σ0 ρ0 H0 F σ ρ H) (h : RepR S F σ ρ H r v) (n : New H0 r v) (e : toSl r ρ = .ok s ρ') :
    ∃ F', Post S F0 σ0 ρ0 H0 F' σ ρ' H ∧ StoR S F' σ ρ' H s v ∧ NewS H0 s v ∧ Kp F H F' H ∧ (∀ a, F' a → F a ∨ (v = .ref a ∧ OA σ ρ a)) ∧ (∀ a, OA σ ρ' a → OA σ ρ a) ∧ (IsOwnS s → IsOwn r) := by
  have go : ∀ r : Rv, ¬ IsOwn r → RepR S F σ ρ H r v → New H0 r v → M.bnd (frz r) (fun d => M.ret (Sl.val d)) ρ = .ok s ρ' → ∃ F', Post S F0 σ0 ρ0 H0 F' σ ρ' H ∧ StoR S F' σ ρ' H s v ∧ NewS H0 s v ∧ Kp F H F' H ∧ (∀ a, F' a → F a ∨ (v = .ref a ∧ OA σ ρ a)) ∧ (∀ a, OA σ ρ' a → OA σ ρ a) ∧ (IsOwnS s → IsOwn r) := fun r nr h n e => by
    obtain ⟨d, ρ1, e1, e2⟩ := bnd_eq_ok e
    have e2 : Out.ok (Sl.val d) ρ1 = Out.ok s ρ' := e2
    cases e2
    obtain ⟨F', P', q, k, hF, hO⟩ := frz_post P h n e1
    exact ⟨F', P', q, trivial, k, fun a f => (hF a f).imp id fun ⟨z, y⟩ => ⟨z, y.elim (fun y => absurd y nr) id⟩, hO, fun z => z.elim⟩
  cases r with
  | val d => exact go (.val d) (fun z => z) h n e
  | var i => exact go (.var i) (fun z => z) h n e
  | own o =>
    have e : Out.ok (Sl.own o) ρ = Out.ok s ρ' := e
    cases e
    exact ⟨F, P, h, n, Kp.refl _ _, fun a f => .inl f, fun a z => z, fun _ => trivial⟩
def StoRs (S : Sx) (F : Fz) (σ : St) (ρ : List Sl) (H : Hp) : List Sl → List V → Prop
  | [], vs => vs = []
  | s :: ss, vs => ∃ v us, vs = v :: us ∧ StoR S F σ ρ H s v ∧ StoRs S F σ ρ H ss us ∧ (IsOwnS s → ∀ (j : Nat) s' v', ss[j]? = some s' → us[j]? = some v' → IsOwnS s' → v' ≠ v)
def NewSs (H : Hp) : List Sl → List V → Prop
  | s :: ss, v :: vs => NewS H s v ∧ NewSs H ss vs
  | _, _ => True
theorem StoR.mono {F' : Fz} {ρ' : List Sl} {s : Sl} {v v' : V} (k : Kp F H F' H) (hF : ∀ a, F' a → F a ∨ (v' = .ref a ∧ OA σ ρ a)) (hO : ∀ a, OA σ ρ' a → OA σ ρ a) (h : StoR S F σ ρ H s v) : StoR S F' σ ρ' H s v := by
  cases s with
  | emp => exact h
  | bor o => exact h
  | val d => exact rep_mono k d v h
  | own o =>
    obtain ⟨a, e, nf, no, q⟩ := h
    exact ⟨a, e, fun f => (hF a f).elim nf fun z => no z.2, fun z => no (hO a z), obj_mono k q fun u e => e⟩
/-- the rest is made ready: what stands already stays -/
theorem toSls_post : ∀ {rs : List Rv} {vs : List V} {F : Fz} {ρ ρ' : List Sl} {ss : List Sl}, Post S F0 σ0 ρ0 H0 F σ ρ H → RepRs S F σ ρ H rs vs → News H0 rs vs → toSls rs ρ = .ok ss ρ' →
    ∃ F', Post S F0 σ0 ρ0 H0 F' σ ρ' H ∧ StoRs S F' σ ρ' H ss vs ∧ NewSs H0 ss vs ∧ Kp F H F' H ∧ (∀ a, F' a → F a ∨ OA σ ρ a) ∧ (∀ a, OA σ ρ' a → OA σ ρ a) ∧ ∀ (j : Nat) s, ss[j]? = some s → IsOwnS s → ∃ r, rs[j]? = some r ∧ IsOwn r
  | [], _, F, ρ, ρ', ss, P, h, _, e => by
    have e : Out.ok [] ρ = Out.ok ss ρ' := e
    cases e
    exact ⟨F, P, h, trivial, Kp.refl _ _, fun a f => .inl f, fun a z => z, fun j s e => by simp at e⟩
  | r :: rs, _, F, ρ, ρ', ss, P, h, n, e => by
    obtain ⟨v, us, rfl, h1, h2, sep⟩ := h
    obtain ⟨s, ρ1, e1, e2⟩ := bnd_eq_ok (show M.bnd (toSl r) (fun s => M.bnd (toSls rs) fun ss => M.ret (s :: ss)) ρ = .ok ss ρ' from e)
    obtain ⟨ts, ρ2, e2, e3⟩ := bnd_eq_ok e2
    have e3 : Out.ok (s :: ts) ρ2 = Out.ok ss ρ' := e3
    cases e3
    obtain ⟨F1, P1, q1, n1, k1, f1, o1, w1⟩ := toSl_post P h1 n.1 e1
    have h2' : RepRs S F1 σ ρ1 H rs us := RepRs.frz (r := .var 0) (v := v) k1 (fun a f => (f1 a f).imp id fun z => ⟨z.1, .inr z.2⟩) o1 (fun z => z.elim) h2
    obtain ⟨F2, P2, q2, n2, k2, f2, o2, w2⟩ := toSls_post P1 h2' n.2 e2
    refine ⟨F2, P2, ⟨v, us, rfl, ?_, q2, fun os j s' v' es ev os' => ?_⟩, ⟨n1, n2⟩, ⟨fun _ _ _ e => e, fun a f => k2.fs a (k1.fs a f), fun _ _ _ e => e⟩, fun a f => (f2 a f).elim (fun z => (f1 a z).imp id (·.2)) fun z => .inr (o1 a z), fun a z => o1 a (o2 a z), fun j s' es os => ?_⟩
    · cases s with
      | emp => exact q1
      | bor o => exact q1
      | val d => exact rep_mono k2 d v q1
      | own o =>
        obtain ⟨a, e, nf, no, q⟩ := q1
        exact ⟨a, e, fun f => (f2 a f).elim nf no, fun z => no (o2 a z), obj_mono k2 q fun u e => e⟩
    · obtain ⟨r', er, or'⟩ := w2 j s' es os'
      exact sep (w1 os) j r' v' er ev or'
    · cases j with
      | zero =>
        have es : s = s' := by simpa using es
        subst es
        exact ⟨r, rfl, w1 os⟩
      | succ j =>
        obtain ⟨r', er, o⟩ := w2 j s' (by simpa using es) os
        exact ⟨r', by simpa using er, o⟩
theorem toSl_noexc {r : Rv} {ρ : List Sl} : ∀ c x ρ', toSl r ρ ≠ .exc c x ρ' := fun c x ρ' e => by
  have go : ∀ r : Rv, M.bnd (frz r) (fun d => M.ret (Sl.val d)) ρ ≠ .exc c x ρ' := fun r e => (bnd_eq_exc e).elim (frz_noexc _ _ _) fun ⟨d, ρ1, _, z⟩ => by cases (show Out.ok (Sl.val d) ρ1 = .exc c x ρ' from z)
  cases r with
  | val d => exact go (.val d) e
  | var i => exact go (.var i) e
  | own o => cases (show Out.ok (Sl.own o) ρ = Out.exc c x ρ' from e)
theorem toSls_noexc : ∀ {rs : List Rv} {ρ : List Sl}, ∀ c x ρ', toSls rs ρ ≠ .exc c x ρ'
  | [], ρ, c, x, ρ', e => by cases (show Out.ok [] ρ = Out.exc c x ρ' from e)
  | r :: rs, ρ, c, x, ρ', e => by
    rcases bnd_eq_exc (show M.bnd (toSl r) (fun s => M.bnd (toSls rs) fun ss => M.ret (s :: ss)) ρ = .exc c x ρ' from e) with z | ⟨s, ρ1, _, z⟩
    · exact toSl_noexc _ _ _ z
    · rcases bnd_eq_exc z with z | ⟨ss, ρ2, _, z⟩
      · exact toSls_noexc _ _ _ z
      · cases (show Out.ok (s :: ss) ρ2 = Out.exc c x ρ' from z)
end
end Pyd
end

section
set_option Elab.async false
set_option linter.all false
set_option maxRecDepth 100000
set_option maxHeartbeats 4000000
/-! Pyd, part K: what a loop walks, by data. -/
namespace Pyd
open PySem PySem.Spec L2
open PyProof.Rows hiding St

/-- J walks ds: now and as long as what is frozen stays -/
def WalkD (S : Sx) (F : Fz) (H : Hp) (J : It) (ds : List D) : Prop := ∀ F' H', Kp F H F' H' → (∀ i, i < ds.length → J.go i H') ∧ J.stop ds.length H' ∧
  ∀ i d x H'', ds[i]? = some d → J.yld i H' x H'' → (H'' = H' ∧ rep S F' H' d x) ∨ ∃ p ob vs es, d = .tup es ∧ x = .ref p ∧ H' p = none ∧ ob.dict = Option.none ∧ H'' = upd H' p (.frz ob (.tup vs)) ∧ reps S F' H' es vs
def iD (S : Sx) (W : WX) (m : M (List D)) : TI := fun σ H R => ∃ F ρ, SRep S F σ ρ H ∧ Wg S W σ F ρ H (m ρ) (fun ds F' _ H' => ∀ J, WalkD S F' H' J ds → R J H')
theorem Kp.trans {F F1 F2 : Fz} {H H1 H2 : Hp} (k : Kp F H F1 H1) (l : Kp F1 H1 F2 H2) : Kp F H F2 H2 :=
  ⟨fun a ob u e => l.frz a ob u (k.frz a ob u e), fun a f => l.fs a (k.fs a f), fun a o f e => l.fk a o (k.fs a f) (k.fk a o f e)⟩
theorem seq_at {S : Sx} {F : Fz} {H : Hp} {d : D} {v : V} {ds : List D} (h : rep S F H d v) (e : seqD d = some ds) : ∃ b a vs, v = .ref a ∧ reps S F H ds vs ∧ ∀ F' H', Kp F H F' H' → SqB b S.K H' a vs := by
  cases d <;> cases e
  · obtain ⟨a, vs, rfl, t, r⟩ := h
    exact ⟨false, a, vs, rfl, r, fun F' H' k => (k.tup t).seq⟩
  · obtain ⟨a, vs, rfl, f, t, r⟩ := h
    exact ⟨true, a, vs, rfl, r, fun F' H' k => SqL.of (k.fk _ _ f t)⟩
theorem opt_inv {S : Sx} {W : WX} {σ : St} {F : Fz} {ρ ρ1 : List Sl} {H : Hp} {α β : Type} {o : Option α} {k : α → M β} {G : β → Fz → List Sl → Hp → Prop} (h : Wg S W σ F ρ H (M.bnd (M.opt o) k ρ1) G) : ∃ a, o = some a ∧ Wg S W σ F ρ H (k a ρ1) G := by
  cases o with
  | none => exact h.elim
  | some a => exact ⟨a, rfl, h⟩
theorem opt_end0 {S : Sx} {W : WX} {σ : St} {F : Fz} {ρ ρ1 : List Sl} {H : Hp} {α : Type} {o : Option α} {G : α → Fz → List Sl → Hp → Prop} (h : Wg S W σ F ρ H (M.opt o ρ1) G) : ∃ a, o = some a ∧ Wg S W σ F ρ H (.ok a ρ1) G := by
  cases o with
  | none => exact h.elim
  | some a => exact ⟨a, rfl, h⟩
theorem walk_seq {S : Sx} {F : Fz} {H : Hp} {b : Bool} {a : Addr} {ds : List D} {vs : List V} (r : reps S F H ds vs) (sq : ∀ F' H', Kp F H F' H' → SqB b S.K H' a vs) : WalkD S F H (ItSq b S.K a) ds := fun F' H' k => by
  have q := sq F' H' k
  have r' := reps_mono k ds vs r
  have hl := reps_length r
  cases b with
  | true =>
    refine ⟨fun i hi => ⟨vs, vs[i]'(by omega), q, List.getElem?_eq_getElem _⟩, ⟨vs, q, by omega⟩, fun i d x H'' hd hy => .inl ⟨hy.1, ?_⟩⟩
    obtain ⟨v, ev, rv⟩ := reps_get r' hd
    rw [hy.2 vs q] at ev
    cases ev
    exact rv
  | false =>
    refine ⟨fun i hi => ⟨vs, vs[i]'(by omega), q, List.getElem?_eq_getElem _⟩, ⟨vs, q, by omega⟩, fun i d x H'' hd hy => .inl ⟨hy.1, ?_⟩⟩
    obtain ⟨v, ev, rv⟩ := reps_get r' hd
    rw [hy.2 vs q] at ev
    cases ev
    exact rv
theorem walk_enum {S : Sx} {F : Fz} {H : Hp} {b : Bool} {a : Addr} {ds : List D} {vs : List V} (r : reps S F H ds vs) (sq : ∀ F' H', Kp F H F' H' → SqB b S.K H' a vs) : WalkD S F H (IzE b S.K a) (ds.zipIdx.map fun p => D.tup [.int (p.2 : Nat), p.1]) := fun F' H' k => by
  have q := sq F' H' k
  have r' := reps_mono k ds vs r
  have hl := reps_length r
  refine ⟨fun i hi => ?_, ⟨vs, q, by rw [List.length_map, List.length_zipIdx]; exact hl.symm⟩, fun i d x H'' hd hy => .inr ?_⟩
  · rw [List.length_map, List.length_zipIdx] at hi
    exact ⟨vs, vs[i]'(by omega), q, List.getElem?_eq_getElem _⟩
  · obtain ⟨T, ob, y, rfl, n, hd0, rfl, hy⟩ := hy
    rw [List.getElem?_map, List.getElem?_zipIdx] at hd
    cases he : ds[i]? with
    | none => rw [he] at hd; cases hd
    | some e =>
      rw [he] at hd
      have hd : D.tup [.int ((0 + i : Nat) : Int), e] = d := Option.some.inj hd
      subst hd
      obtain ⟨v, ev, rv⟩ := reps_get r' he
      rw [hy vs q] at ev
      cases ev
      refine ⟨T, ob, _, _, rfl, rfl, n, hd0, rfl, _, _, rfl, ?_, _, _, rfl, rv, rfl⟩
      show V.int i = V.int ((0 + i : Nat) : Int)
      rw [Nat.zero_add]
theorem walk_zip {S : Sx} {F : Fz} {H : Hp} {b c : Bool} {a a' : Addr} {ds es : List D} {vs us : List V} (r : reps S F H ds vs) (sq : ∀ F' H', Kp F H F' H' → SqB b S.K H' a vs) (r2 : reps S F H es us) (sq2 : ∀ F' H', Kp F H F' H' → SqB c S.K H' a' us) :
    WalkD S F H (IzP b c S.K a a') ((ds.zip es).map fun p => D.tup [p.1, p.2]) := fun F' H' k => by
  have q := sq F' H' k
  have q2 := sq2 F' H' k
  have r' := reps_mono k ds vs r
  have r2' := reps_mono k es us r2
  have hl := reps_length r
  have hl2 := reps_length r2
  refine ⟨fun i hi => ?_, ⟨vs, us, q, q2, by rw [List.length_map, List.length_zip, hl, hl2]⟩, fun i d x H'' hd hy => .inr ?_⟩
  · rw [List.length_map, List.length_zip] at hi
    exact ⟨vs, us, vs[i]'(by omega), us[i]'(by omega), q, q2, List.getElem?_eq_getElem _, List.getElem?_eq_getElem _⟩
  · obtain ⟨T, ob, y, z, rfl, n, hd0, rfl, hy, hz⟩ := hy
    rw [List.getElem?_map] at hd
    cases he : (ds.zip es)[i]? with
    | none => rw [he] at hd; cases hd
    | some e =>
      obtain ⟨e1, e2⟩ := e
      rw [he] at hd
      have hd : D.tup [e1, e2] = d := Option.some.inj hd
      subst hd
      obtain ⟨h1, h2⟩ := List.getElem?_zip_eq_some.mp he
      obtain ⟨v, ev, rv⟩ := reps_get r' h1
      rw [hy vs q] at ev
      cases ev
      obtain ⟨v2, ev2, rv2⟩ := reps_get r2' h2
      rw [hz us q2] at ev2
      cases ev2
      exact ⟨T, ob, _, _, rfl, rfl, n, hd0, rfl, _, _, rfl, rv, _, _, rfl, rv2, rfl⟩
theorem walk_range {S : Sx} {F : Fz} {H : Hp} {lo hi : Int} {n : Nat} (hn : n = (hi - lo).toNat) : WalkD S F H (Itr lo n) (rgD lo hi) := fun F' H' k => by
  have hl : (rgD lo hi).length = n := by unfold rgD; rw [List.length_map, List.length_range, hn]
  refine ⟨fun i h => by rw [hl] at h; exact h, Nat.le_of_eq hl.symm, fun i d x H'' hd hy => .inl ⟨hy.1, ?_⟩⟩
  unfold rgD at hd
  rw [List.getElem?_map] at hd
  cases he : (List.range (hi - lo).toNat)[i]? with
  | none => rw [he] at hd; cases hd
  | some j =>
    rw [he] at hd
    have hd : D.int (lo + (j : Nat)) = d := Option.some.inj hd
    subst hd
    have hj : i = j := by
      rw [List.getElem?_range] at he
      · exact Option.some.inj he
      · have := (List.getElem?_eq_some_iff.mp he).1
        simpa using this
    subst hj
    exact hy.2
theorem walk_range3 {S : Sx} {F : Fz} {H : Hp} {i j c : Int} : WalkD S F H (Itc i c (Builtin.Range.rangeSize i j c).toNat) (rg3D i j c) := fun F' H' k => by
  have hl : (rg3D i j c).length = (Builtin.Range.rangeSize i j c).toNat := by unfold rg3D; rw [List.length_map, List.length_range]
  refine ⟨fun i h => by rw [hl] at h; exact h, Nat.le_of_eq hl.symm, fun m d x H'' hd hy => .inl ⟨hy.1, ?_⟩⟩
  unfold rg3D at hd
  rw [List.getElem?_map] at hd
  cases he : (List.range (Builtin.Range.rangeSize i j c).toNat)[m]? with
  | none => rw [he] at hd; cases hd
  | some q =>
    rw [he] at hd
    have hd : D.int (i + (q : Int) * c) = d := Option.some.inj hd
    subst hd
    have hj : m = q := by
      rw [List.getElem?_range] at he
      · exact Option.some.inj he
      · have := (List.getElem?_eq_some_iff.mp he).1
        simpa using this
    subst hj
    exact hy.2
/-- a built-in class by its name -/
structure TyAt (X : Cx) (x : Str) (t : String) : Prop where
  gl : Gl X x
  mg : X.mg x = none
  nm : x = Str.ofString t
  bt : bootBuiltins x = some (.type t)
  nd : (x == ("__debug__" : Str)) = false
  nn : x ≠ "__name__"
section
variable {S : Sx} {W : WX} {X : Cx} {tg : Expr}
theorem pi_dat {it : Expr} {m : M Rv} (hK : X.K = S.K) (h : PE X it (tE S W m)) : PI X tg it (iD S W (M.bnd m fun r => M.bnd (frz r) fun d => M.opt (seqD d))) := by
  refine PI.sub (pi_seqB h) fun σ H R ⟨F, ρ, Rp, w⟩ => run_E0 Rp w fun r F1 ρ1 H1 v P rv nv w => ?_
  obtain ⟨d, ρ2, e, w⟩ := bnd_ok w frz_noexc
  obtain ⟨F2, P2, q, _⟩ := frz_post P rv nv e
  obtain ⟨ds, e2, w⟩ := opt_end0 w
  obtain ⟨b, a, vs, rfl, rr, sq⟩ := seq_at q e2
  refine ⟨b, a, vs, rfl, by rw [hK]; exact sq _ _ (Kp.refl _ _), ?_⟩
  rw [hK]
  exact w F2 H1 P2 _ (walk_seq rr sq)
theorem evArgs1 {f : Expr → M Rv} {a : Expr} (hs : ∀ e' p, a ≠ .Starred e' p) : evArgs f [a] = M.bnd (f a) fun r => M.ret [r] := by
  rw [evArgs_cons hs]
  rfl
theorem evArgs2 {f : Expr → M Rv} {a b : Expr} (hs : ∀ e' p, a ≠ .Starred e' p) (hs2 : ∀ e' p, b ≠ .Starred e' p) : evArgs f [a, b] = M.bnd (f a) fun r => M.bnd (f b) fun s => M.ret [r, s] := by
  rw [evArgs_cons hs, evArgs1 hs2]
  simp only [bnd_assoc, bnd_ret]
theorem pi_false {it : Expr} {t : TI} (h : ∀ σ H R, ¬ t σ H R) : PI X tg it t := ⟨fun pins s σ H R I w => (h σ H R w).elim⟩
theorem bad_i {k : M (List D)} (h : ∀ ρ, k ρ = .bad) : ∀ σ H R, ¬ iD S W k σ H R := fun σ H R ⟨F, ρ, _, w⟩ => by
  rw [h] at w
  exact w
theorem starE {es : List Expr} (h : ∀ e ∈ es, ∀ e' p, e ≠ .Starred e' p) : starEach es X.env = es.map fun e => (false, eval e X.env) := by
  induction es with
  | nil => rfl
  | cons e es ih =>
    rw [star_ok (h e List.mem_cons_self), ih fun e' he => h e' (List.mem_cons_of_mem _ he)]
    rfl
/-- the arguments, read in full -/
theorem args1_run {f : Expr → M Rv} {a : Expr} {k : Rv → M (List D)} {σ : St} {F : Fz} {ρ : List Sl} {H : Hp} {G : List D → Fz → List Sl → Hp → Prop} {Q : List V → Hp → Prop} (hs : ∀ e' p, a ≠ .Starred e' p) (R : SRep S F σ ρ H)
    (w : Wg S W σ F ρ H (M.bnd (f a) k ρ) G) (i : ∀ r F1 ρ1 H1 v, Post S F σ ρ H F1 σ ρ1 H1 → RepR S F1 σ ρ1 H1 r v → New H r v → Wg S W σ F ρ H (k r ρ1) G → Q [v] H1) : tA S W (evArgs f [a]) σ H Q := by
  have e : M.bnd (f a) k = M.bnd (evArgs f [a]) fun rs => match rs with | [r] => k r | _ => M.bad := by
    rw [evArgs1 hs]
    simp only [bnd_assoc, bnd_ret]
  rw [e] at w
  refine run_A0 R w fun rs F1 ρ1 H1 vs P rvs nvs w => ?_
  cases rs with
  | nil => exact w.elim
  | cons r rs =>
    cases rs with
    | cons _ _ => exact w.elim
    | nil =>
      obtain ⟨v, us, rfl, h1, h2, _⟩ := rvs
      cases h2
      exact i r F1 ρ1 H1 v P h1 nvs.1 w
theorem args2_run {f : Expr → M Rv} {a b : Expr} {k : Rv → Rv → M (List D)} {σ : St} {F : Fz} {ρ : List Sl} {H : Hp} {G : List D → Fz → List Sl → Hp → Prop} {Q : List V → Hp → Prop} (hs : ∀ e' p, a ≠ .Starred e' p) (hs2 : ∀ e' p, b ≠ .Starred e' p) (R : SRep S F σ ρ H)
    (w : Wg S W σ F ρ H (M.bnd (f a) (fun r => M.bnd (f b) fun s => k r s) ρ) G) (i : ∀ r s F1 ρ1 H1 v u, Post S F σ ρ H F1 σ ρ1 H1 → RepRs S F1 σ ρ1 H1 [r, s] [v, u] → News H [r, s] [v, u] → Wg S W σ F ρ H (k r s ρ1) G → Q [v, u] H1) : tA S W (evArgs f [a, b]) σ H Q := by
  have e : (M.bnd (f a) fun r => M.bnd (f b) fun s => k r s) = M.bnd (evArgs f [a, b]) fun rs => match rs with | [r, s] => k r s | _ => M.bad := by
    rw [evArgs2 hs hs2]
    simp only [bnd_assoc, bnd_ret]
  rw [e] at w
  refine run_A0 R w fun rs F1 ρ1 H1 vs P rvs nvs w => ?_
  cases rs with
  | nil => exact w.elim
  | cons r rs =>
    cases rs with
    | nil => exact w.elim
    | cons s rs =>
      cases rs with
      | cons _ _ => exact w.elim
      | nil =>
        obtain ⟨v, us, rfl, h1, ⟨u, us, rfl, h2, h3, x⟩, y⟩ := rvs
        cases h3
        exact i r s F1 ρ1 H1 v u P ⟨v, _, rfl, h1, ⟨u, _, rfl, h2, rfl, x⟩, y⟩ nvs w
theorem evArgs3 {f : Expr → M Rv} {a b c : Expr} (hs : ∀ e' p, a ≠ .Starred e' p) (hs2 : ∀ e' p, b ≠ .Starred e' p) (hs3 : ∀ e' p, c ≠ .Starred e' p) : evArgs f [a, b, c] = M.bnd (f a) fun r => M.bnd (f b) fun s => M.bnd (f c) fun t => M.ret [r, s, t] := by
  rw [evArgs_cons hs, evArgs2 hs2 hs3]
  simp only [bnd_assoc, bnd_ret]
theorem args3_run {f : Expr → M Rv} {a b c : Expr} {k : Rv → Rv → Rv → M (List D)} {σ : St} {F : Fz} {ρ : List Sl} {H : Hp} {G : List D → Fz → List Sl → Hp → Prop} {Q : List V → Hp → Prop} (hs : ∀ e' p, a ≠ .Starred e' p) (hs2 : ∀ e' p, b ≠ .Starred e' p) (hs3 : ∀ e' p, c ≠ .Starred e' p) (R : SRep S F σ ρ H)
    (w : Wg S W σ F ρ H (M.bnd (f a) (fun r => M.bnd (f b) fun s => M.bnd (f c) fun t => k r s t) ρ) G) (i : ∀ r s t F1 ρ1 H1 vs, Post S F σ ρ H F1 σ ρ1 H1 → RepRs S F1 σ ρ1 H1 [r, s, t] vs → Wg S W σ F ρ H (k r s t ρ1) G → Q vs H1) : tA S W (evArgs f [a, b, c]) σ H Q := by
  have e : (M.bnd (f a) fun r => M.bnd (f b) fun s => M.bnd (f c) fun t => k r s t) = M.bnd (evArgs f [a, b, c]) fun rs => match rs with | [r, s, t] => k r s t | _ => M.bad := by
    rw [evArgs3 hs hs2 hs3]
    simp only [bnd_assoc, bnd_ret]
  rw [e] at w
  refine run_A0 R w fun rs F1 ρ1 H1 vs P rvs nvs w => ?_
  match rs, rvs, w with
  | [], _, w => exact w.elim
  | [_], _, w => exact w.elim
  | [_, _], _, w => exact w.elim
  | _ :: _ :: _ :: _ :: _, _, w => exact w.elim
  | [r, s, t], rvs, w => exact i r s t F1 ρ1 H1 vs P rvs w
theorem rgM3_inv {r s t : Rv} {σ : St} {F : Fz} {ρ ρ1 : List Sl} {H : Hp} {G : List D → Fz → List Sl → Hp → Prop} (w : Wg S W σ F ρ H (rgM3 r s t ρ1) G) : ∃ n m c, r = .val (.int n) ∧ s = .val (.int m) ∧ t = .val (.int c) ∧ okRg3 n m c = true ∧ Wg S W σ F ρ H (.ok (rg3D n m c) ρ1) G := by
  unfold rgM3 at w
  split at w
  · rename_i n m c
    obtain ⟨h, w⟩ := guard_inv w
    exact ⟨n, m, c, rfl, rfl, rfl, h, w⟩
  · exact w.elim
theorem okRg3_in {i j c : Int} (h : okRg3 i j c = true) : RgC i j c (Builtin.Range.rangeSize i j c).toNat := by
  unfold okRg3 at h
  simp only [Bool.and_eq_true, decide_eq_true_eq] at h
  obtain ⟨⟨h1, h2⟩, h3, h4, h5⟩ := h
  exact ⟨h1, h2, h3, (Int.toNat_of_nonneg h4).symm⟩
theorem rgM_inv {r s : Rv} {σ : St} {F : Fz} {ρ ρ1 : List Sl} {H : Hp} {G : List D → Fz → List Sl → Hp → Prop} (w : Wg S W σ F ρ H (rgM r s ρ1) G) : ∃ n m, r = .val (.int n) ∧ s = .val (.int m) ∧ okRg n m = true ∧ Wg S W σ F ρ H (.ok (rgD n m) ρ1) G := by
  unfold rgM at w
  split at w
  · rename_i n m
    obtain ⟨h, w⟩ := guard_inv w
    exact ⟨n, m, rfl, rfl, h, w⟩
  · exact w.elim
theorem okRg_in {n m : Int} (h : okRg n m = true) : (-(2 ^ 62) ≤ n ∧ n < 2 ^ 62 ∧ -(2 ^ 62) ≤ m ∧ m < 2 ^ 62) ∧ (m - n).toNat ≤ 2 ^ 24 := by
  unfold okRg at h
  rw [Bool.and_eq_true, Bool.and_eq_true] at h
  obtain ⟨a, b⟩ := small_in h.1.1
  obtain ⟨c, d⟩ := small_in h.1.2
  exact ⟨⟨a, b, c, d⟩, of_decide_eq_true h.2⟩
theorem star1 {a : Expr} (h : noStar [a] = true) : ∀ e' p, a ≠ .Starred e' p := star_of h a List.mem_cons_self
theorem star2 {a b : Expr} (h : noStar [a, b] = true) : (∀ e' p, a ≠ .Starred e' p) ∧ ∀ e' p, b ≠ .Starred e' p := ⟨star_of h a List.mem_cons_self, star_of h b (List.mem_cons_of_mem _ List.mem_cons_self)⟩
/-- under a test of the text itself -/
theorem pi_guard {it : Expr} {b : Bool} {m : M (List D)} (h : b = true → PI X tg it (iD S W m)) : PI X tg it (iD S W (M.guard b m)) := by
  cases b with
  | true => exact h rfl
  | false => exact pi_false (bad_i fun ρ => rfl)
theorem pi_rng1 {f : Expr → M Rv} {a : Expr} {x : Str} {p pos : Pos} (h : ∀ e, PE X e (tE S W (f e))) (T : TyAt X x "range") (s : noStar [a] = true) : PI X tg (.Call (.Name x p) [a] [] pos) (iD S W (M.bnd (f a) fun r => rgM (.val (.int 0)) r)) := by
  have ns := star1 s
  have nm := T.nm
  subst nm
  refine PI.sub (pi_range1 T.gl T.mg (pa_ev fun e he => h e) (starE (star_of s))) fun σ H R ⟨F, ρ, Rp, w⟩ => args1_run ns Rp w fun r F1 ρ1 H1 v P rv nv w => ?_
  obtain ⟨n, m, en, rfl, ok, w⟩ := rgM_inv w
  cases en
  obtain ⟨⟨_, _, c1, c2⟩, _⟩ := okRg_in ok
  have rv : v = V.int m := rv
  subst rv
  exact ⟨m, rfl, c1, c2, w F1 H1 P _ (walk_range (by rw [Int.sub_zero]))⟩
theorem pi_rng2 {f : Expr → M Rv} {a b : Expr} {x : Str} {p pos : Pos} (h : ∀ e, PE X e (tE S W (f e))) (T : TyAt X x "range") (s : noStar [a, b] = true) : PI X tg (.Call (.Name x p) [a, b] [] pos) (iD S W (M.bnd (f a) fun r => M.bnd (f b) fun s => rgM r s)) := by
  obtain ⟨ns, ns2⟩ := star2 s
  have nm := T.nm
  subst nm
  refine PI.sub (pi_range2 T.gl T.mg (pa_ev fun e he => h e) (starE (star_of s)) (starE fun e he => by rw [List.mem_singleton.mp he]; exact ns2)) fun σ H R ⟨F, ρ, Rp, w⟩ => args2_run ns ns2 Rp w fun r s F1 ρ1 H1 v u P rv nv w => ?_
  obtain ⟨n, m, rfl, rfl, ok, w⟩ := rgM_inv w
  obtain ⟨c, _⟩ := okRg_in ok
  obtain ⟨v', us, e1, h1, ⟨u', us', e2, h2, h3, _⟩, _⟩ := rv
  cases e1
  cases e2
  have h1 : v = V.int n := h1
  have h2 : u = V.int m := h2
  subst h1
  subst h2
  exact ⟨n, m, rfl, c, w F1 H1 P _ (walk_range rfl)⟩
theorem star3 {a b c : Expr} (h : noStar [a, b, c] = true) : (∀ e' p, a ≠ .Starred e' p) ∧ (∀ e' p, b ≠ .Starred e' p) ∧ ∀ e' p, c ≠ .Starred e' p := ⟨star_of h a List.mem_cons_self, star_of h b (List.mem_cons_of_mem _ List.mem_cons_self), star_of h c (List.mem_cons_of_mem _ (List.mem_cons_of_mem _ List.mem_cons_self))⟩
theorem pi_rng3 {f : Expr → M Rv} {a b c : Expr} {x : Str} {p pos : Pos} (h : ∀ e, PE X e (tE S W (f e))) (T : TyAt X x "range") (s : noStar [a, b, c] = true) : PI X tg (.Call (.Name x p) [a, b, c] [] pos) (iD S W (M.bnd (f a) fun r => M.bnd (f b) fun s => M.bnd (f c) fun t => rgM3 r s t)) := by
  obtain ⟨ns, ns2, ns3⟩ := star3 s
  have nm := T.nm
  subst nm
  refine PI.sub (pi_range3 T.gl T.mg (pa_ev fun e he => h e) (star_ok ns) (star_any fun e he => by
    rcases List.mem_cons.mp he with rfl | he
    · exact ns2
    · rw [List.mem_singleton.mp he]; exact ns3)) fun σ H R ⟨F, ρ, Rp, w⟩ => args3_run ns ns2 ns3 Rp w fun r s t F1 ρ1 H1 vs P rv w => ?_
  obtain ⟨n, m, q, rfl, rfl, rfl, ok, w⟩ := rgM3_inv w
  obtain ⟨v', us, rfl, h1, ⟨u', us', rfl, h2, ⟨w', us2, rfl, h3, h4, _⟩, _⟩, _⟩ := rv
  have h1 : v' = V.int n := h1
  have h2 : u' = V.int m := h2
  have h3 : w' = V.int q := h3
  have h4 : us2 = [] := h4
  subst h1 h2 h3 h4
  exact ⟨n, m, q, _, rfl, okRg3_in ok, w F1 H1 P _ walk_range3⟩
theorem pi_enD {f : Expr → M Rv} {a : Expr} {x : Str} {p pos tp : Pos} {elts : List Expr} {kk : Nat} (hK : X.K = S.K) (h : ∀ e, PE X e (tE S W (f e))) (T : TyAt X x "enumerate") (s : noStar [a] = true) :
    PI X (.Tuple elts kk tp) (.Call (.Name x p) [a] [] pos) (iD S W (M.bnd (f a) fun r => M.bnd (frz r) fun d => M.bnd (M.opt (seqD d)) fun ds => M.ret (ds.zipIdx.map fun p => D.tup [.int (p.2 : Nat), p.1]))) := by
  have ns := star1 s
  have nm := T.nm
  subst nm
  refine PI.sub (pi_enB T.gl T.mg (pa_ev fun e he => h e) (starE (star_of s))) fun σ H R ⟨F, ρ, Rp, w⟩ => args1_run ns Rp w fun r F1 ρ1 H1 v P rv nv w => ?_
  obtain ⟨d, ρ2, e, w⟩ := bnd_ok w frz_noexc
  obtain ⟨F2, P2, q, _⟩ := frz_post P rv nv e
  obtain ⟨ds, e2, w⟩ := opt_inv w
  obtain ⟨b, a', vs, rfl, rr, sq⟩ := seq_at q e2
  refine ⟨b, a', vs, rfl, by rw [hK]; exact sq _ _ (Kp.refl _ _), ?_⟩
  rw [hK]
  exact w F2 H1 P2 _ (walk_enum rr sq)
theorem pi_zpD {f : Expr → M Rv} {a b : Expr} {x : Str} {p pos tp : Pos} {elts : List Expr} {kk : Nat} (hK : X.K = S.K) (h : ∀ e, PE X e (tE S W (f e))) (T : TyAt X x "zip") (s : noStar [a, b] = true) :
    PI X (.Tuple elts kk tp) (.Call (.Name x p) [a, b] [] pos) (iD S W (M.bnd (f a) fun r => M.bnd (f b) fun s => M.bnd (frzs [r, s]) fun ds => zipM ds)) := by
  obtain ⟨ns, ns2⟩ := star2 s
  have nm := T.nm
  subst nm
  refine PI.sub (pi_zpB T.gl T.mg (pa_ev fun e he => h e) (star_ok ns) (star_any fun e he => by rw [List.mem_singleton.mp he]; exact ns2)) fun σ H R ⟨F, ρ, Rp, w⟩ => args2_run ns ns2 Rp w fun r s F1 ρ1 H1 v u P rv nv w => ?_
  obtain ⟨dd, ρ2, e, w⟩ := bnd_ok w frzs_noexc
  obtain ⟨F2, P2, q, _⟩ := frzs_post P rv nv e
  cases dd with
  | nil => exact w.elim
  | cons d dd =>
    cases dd with
    | nil => exact w.elim
    | cons d2 dd =>
      cases dd with
      | cons _ _ => exact w.elim
      | nil =>
        obtain ⟨v', us, e1, h1, ⟨u', us', e2, h2, h3⟩⟩ := q
        cases e1
        cases e2
        obtain ⟨ds, z1, w⟩ := opt_inv w
        obtain ⟨es, z2, w⟩ := opt_inv w
        obtain ⟨b1, a1, vs, rfl, rr, sq⟩ := seq_at h1 z1
        obtain ⟨b2, a2, us, rfl, rr2, sq2⟩ := seq_at h2 z2
        refine ⟨b1, b2, a1, a2, vs, us, rfl, by rw [hK]; exact sq _ _ (Kp.refl _ _), by rw [hK]; exact sq2 _ _ (Kp.refl _ _), ?_⟩
        rw [hK]
        exact w F2 H1 P2 _ (walk_zip rr sq rr2 sq2)
theorem isTup_of {tg : Expr} (h : isTupT tg = true) : ∃ es k p, tg = .Tuple es k p := by
  cases tg <;> first | exact ⟨_, _, _, rfl⟩ | cases h
theorem pi_evIter {C : Cfg} {sc : Scope} {f : Expr → M Rv} {it : Expr} (hK : X.K = S.K) (h : ∀ e, PE X e (tE S W (f e))) (hG : ∀ x t, globOf C sc x = some (.ty t) → TyAt X x t) : PI X tg it (iD S W (evIter C sc f tg it)) := by
  have dat : ∀ e, PI X tg e (iD S W (M.bnd (f e) fun r => M.bnd (frz r) fun d => M.opt (seqD d))) := fun e => pi_dat hK (h e)
  unfold evIter
  split
  · split
    · rename_i hx
      exact pi_guard fun s => pi_rng1 h (hG _ _ hx) s
    · rename_i hx
      exact pi_guard fun s => pi_rng2 h (hG _ _ hx) s
    · rename_i hx
      exact pi_guard fun s => pi_rng3 h (hG _ _ hx) s
    · rename_i hx
      split
      · rename_i ht
        obtain ⟨es, k, p, rfl⟩ := isTup_of ht
        exact pi_guard fun s => pi_enD hK h (hG _ _ hx) s
      · exact pi_false (bad_i fun ρ => rfl)
    · rename_i hx
      split
      · rename_i ht
        obtain ⟨es, k, p, rfl⟩ := isTup_of ht
        exact pi_guard fun s => pi_zpD hK h (hG _ _ hx) s
      · exact pi_false (bad_i fun ρ => rfl)
    · exact pi_false (bad_i fun ρ => rfl)
    · exact pi_false (bad_i fun ρ => rfl)
    · exact dat _
  · exact pi_false (bad_i fun ρ => rfl)
  · exact pi_false (bad_i fun ρ => rfl)
  · exact dat _
/-- what is walked is no set display -/
theorem evIter_set {C : Cfg} {sc : Scope} {f : Expr → M Rv} {it : Expr} {env : Env} (h : ∃ ρ, evIter C sc f tg it ρ ≠ .bad) : ∀ x, foldedSetIterable it env x = pure x := by
  intro x
  cases it <;> first | rfl | skip
  obtain ⟨ρ, h⟩ := h
  exact absurd rfl h
end
end Pyd
end

section
set_option Elab.async false
set_option linter.all false
set_option maxRecDepth 100000
set_option maxHeartbeats 4000000
/-! Pyd, part L: the forms of expressions and of tests. -/
namespace Pyd
open PySem PySem.Spec L2
open PyProof.Rows hiding St
section
variable {S : Sx} {W : WX} {X : Cx} {σ : St} {F : Fz} {ρ : List Sl} {H : Hp} {α β : Type}
/-- two parts in a row -/
theorem run_E2 {ma mb : M Rv} {k : Rv → Rv → M β} {G : β → Fz → List Sl → Hp → Prop} {Q : V → V → Hp → Prop} (R : SRep S F σ ρ H) (w : Wg S W σ F ρ H (M.bnd ma (fun r => M.bnd mb fun s => k r s) ρ) G)
    (i : ∀ r s F2 ρ2 H2 v u, Post S F σ ρ H F2 σ ρ2 H2 → RepR S F2 σ ρ2 H2 r v → RepR S F2 σ ρ2 H2 s u → New H r v → New H s u → Wg S W σ F2 ρ2 H2 (k r s ρ2) G → Q v u H2) : tE S W ma σ H fun x H1 => tE S W mb σ H1 fun y H2 => Q x y H2 :=
  run_E R w fun r F1 ρ1 H1 v P rv nv w1 => run_E P.rep w1 fun s F2 ρ2 H2 u P2 ru nu w2 =>
    i r s F2 ρ2 H2 v u (P.trans P2) (rv.mono P.rep P2) ru nv (nu.back P.step) w2
theorem opt_map {o : Option α} {g : α → β} : M.opt (o.map g) = M.bnd (M.opt o) fun c => M.ret (g c) := by
  cases o <;> rfl
theorem pe_op2 {e a b : Expr} {ma mb : M Rv} {f : D → D → Option Rv} (h : PE X e (tOp (rBin S W f) (tE S W ma) (tE S W mb))) : PE X e (tE S W (M.bnd ma fun x => M.bnd mb fun y => lift2 f x y)) :=
  PE.sub h fun σ H Q ⟨F, ρ, R, w⟩ => run_E2 R w fun r s F2 ρ2 H2 v u P rv ru _ _ w => ⟨F2, σ, ρ2, r, s, P.rep, rv, ru, w.imp fun a F' ρ' H' _ g => g.mid P⟩
theorem pe_binE {a b : Expr} {op : Operator} {pos : Pos} {ma mb : M Rv} (hK : X.K = S.K) (ha : PE X a (tE S W ma)) (hb : PE X b (tE S W mb)) : PE X (.BinOp a op b pos) (tE S W (M.bnd ma fun x => M.bnd mb fun y => lift2 (binD op) x y)) :=
  pe_op2 (a := a) (b := b) (pe_op (op_bin hK) ha hb)
theorem pe_ixE {a b : Expr} {pos : Pos} {ma mb : M Rv} (hK : X.K = S.K) (ha : PE X a (tE S W ma)) (hb : PE X b (tE S W mb)) (hp : PlainIx b) : PE X (.Subscript a b pos) (tE S W (M.bnd ma fun x => M.bnd mb fun y => lift2 (fun d k => (ixD d k).map Rv.val) x y)) :=
  pe_op2 (a := a) (b := b) (pe_ix (ix_D hK) ha hb hp)
/-- a comparison, as the interpreter does it -/
def cmpM (op : CmpOp) (x y : Rv) : M Rv := M.bnd (look x) fun d => M.bnd (look y) fun e => M.bnd (M.opt (cmpD op d e)) fun c => M.ret (rvB c)
theorem cmpM_lift {op : CmpOp} : cmpM op = lift2 (cmpR op) := by
  funext x y
  unfold cmpM lift2 cmpR
  simp only [opt_map]
theorem pe_cmpE {a b : Expr} {op : CmpOp} {pos : Pos} {ma mb : M Rv} (hK : X.K = S.K) (hu : X.A.units + 64 < cLine) (ha : PE X a (tE S W ma)) (hb : PE X b (tE S W mb)) (hm : behindInMarks op b = false) : PE X (.Compare a [op] [b] pos) (tE S W (M.bnd ma fun x => M.bnd mb fun y => cmpM op x y)) := by
  rw [cmpM_lift]
  exact pe_op2 (a := a) (b := b) (pe_cmpR (op_cmp hK hu) ha hb hm)
theorem lift2_ok {f : D → D → Option Rv} {x y : Rv} {d e : D} {z : Rv} (h1 : peek x ρ = some d) (h2 : peek y ρ = some e) (h3 : f d e = some z) : lift2 f x y ρ = .ok z ρ := by
  unfold lift2 M.bnd look
  rw [h1]
  simp only
  rw [h2]
  simp only
  rw [h3]
  rfl
def chainM (op op' : CmpOp) (ma mb mc : M Rv) : M Rv := M.bnd ma fun x => M.bnd mb fun y => M.bnd (look x) fun d => M.bnd (look y) fun e => M.bnd (M.opt (cmpD op d e)) fun k => match k with
  | true => M.bnd mc fun z => cmpM op' y z
  | false => M.ret (rvB false)
theorem chain_run {a b c : Expr} {op op' : CmpOp} {ma mb mc : M Rv} {σ : St} {H : Hp} {Q : VK} (w : tE S W (chainM op op' ma mb mc) σ H Q) : tChain (rBin S W (cmpR op)) (rBin S W (cmpR op')) (tE S W ma) (tE S W mb) (tE S W mc) σ H Q := by
  obtain ⟨F, ρ, R, w⟩ := w
  refine run_E2 R w fun r s F2 ρ2 H2 v u P rv ru _ _ w => ?_
  obtain ⟨d, hd, w⟩ := Wg.look w
  obtain ⟨e, he, w⟩ := Wg.look w
  obtain ⟨k, hk, w⟩ := Wg.opt w
  refine ⟨F2, σ, ρ2, r, s, P.rep, rv, ru, ?_⟩
  rw [lift2_ok hd he (z := rvB k) (by unfold cmpR; rw [hk]; rfl)]
  intro F3 H3 P3 z rz _
  refine ⟨k, rz, ?_⟩
  cases k with
  | true =>
    rw [if_pos rfl]
    refine run_E P3.rep (w.shift P3) fun t F4 ρ4 H4 v' P4 rv' nv' w4 => ?_
    refine ⟨F4, σ, ρ4, s, t, P4.rep, (ru.mono P.rep (Post.refl P.rep)).mono P.rep P3 |>.mono P3.rep P4, rv', ?_⟩
    rw [← cmpM_lift]
    exact w4.imp fun a F' ρ' H' _ g => g.mid (P.trans (P3.trans P4))
  | false =>
    rw [if_neg Bool.false_ne_true]
    exact w F3 H3 P3 (.bl false) rfl trivial
theorem pe_chainE {a b c : Expr} {op op' : CmpOp} {pos : Pos} {ma mb mc : M Rv} (hK : X.K = S.K) (hu : X.A.units + 64 < cLine) (ha : PE X a (tE S W ma)) (hb : PE X b (tE S W mb)) (hc : PE X c (tE S W mc)) (hm : lastMarks [op, op'] [b, c] = false) :
    PE X (.Compare a [op, op'] [b, c] pos) (tE S W (chainM op op' ma mb mc)) :=
  PE.sub (pe_chain (op_cmp hK hu) (op_cmp hK hu) ha hb hc hm) fun σ H Q w => chain_run (a := a) (b := b) (c := c) w
theorem pe_cmpAll {f : Expr → M Rv} {l : Expr} {ops : List CmpOp} {cs : List Expr} {pos : Pos} (hK : X.K = S.K) (hu : X.A.units + 64 < cLine) (h : ∀ e, PE X e (tE S W (f e))) : PE X (.Compare l ops cs pos) (tE S W (cmpE f l ops cs)) := by
  have no : ∀ {e : Expr} {m : M Rv}, (∀ ρ, m ρ = .bad) → PE X e (tE S W m) := fun hb => ⟨fun pins s σ H Q I ⟨F, ρ, _, w⟩ => by rw [hb] at w; exact w.elim⟩
  have gd : ∀ {e : Expr} {b : Bool} {m : M Rv}, (b = true → PE X e (tE S W m)) → PE X e (tE S W (M.guard b m)) := fun {e b m} hb => by
    cases b with
    | true => exact hb rfl
    | false => exact no fun ρ => rfl
  unfold cmpE
  split
  · exact gd fun hb => pe_cmpE hK hu (h _) (h _) (by simpa using hb)
  · exact gd fun hb => pe_chainE hK hu (h _) (h _) (h _) (by simpa using hb)
  · exact no fun ρ => rfl
theorem pe_no {e : Expr} {m : M Rv} (h : ∀ ρ, m ρ = .bad) : PE X e (tE S W m) := ⟨fun pins s σ H Q I ⟨F, ρ, _, w⟩ => by rw [h] at w; exact w.elim⟩
theorem pe_guard {e : Expr} {b : Bool} {m : M Rv} (h : b = true → PE X e (tE S W m)) : PE X e (tE S W (M.guard b m)) := by
  cases b with
  | true => exact h rfl
  | false => exact pe_no fun ρ => rfl
theorem pt_no {e : Expr} {m : M Bool} (h : ∀ ρ, m ρ = .bad) : PT X e (tT S W m) := ⟨fun pins s σ H Q I ⟨F, ρ, _, w⟩ => by rw [h] at w; exact w.elim⟩
/-- the chain tests as a Bool -/
def testOf (m : M Rv) : M Bool := M.bnd m fun r => match r with
  | .val (.bl b) => M.ret b
  | _ => M.bad
theorem test_run {m : M Rv} {σ : St} {H : Hp} {Q : Bool → Hp → Prop} (w : tT S W (testOf m) σ H Q) : tE S W m σ H fun x H' => ∃ k, x = .bl k ∧ Q k H' := by
  obtain ⟨F, ρ, R, w⟩ := w
  refine run_E R w fun r F1 ρ1 H1 v P rv nv w => ?_
  split at w
  · rename_i b
    exact ⟨b, rv, Wg.now P.rep w⟩
  · exact w.elim
theorem pt_cmpAll {f : Expr → M Rv} {l : Expr} {ops : List CmpOp} {cs : List Expr} {pos : Pos} (hK : X.K = S.K) (hu : X.A.units + 64 < cLine) (h : ∀ e, PE X e (tE S W (f e))) : PT X (.Compare l ops cs pos) (tT S W (testOf (cmpE f l ops cs))) := by
  have key : ∀ {b : Bool} {m : M Rv}, (b = true → PT X (.Compare l ops cs pos) (tT S W (testOf m))) → PT X (.Compare l ops cs pos) (tT S W (testOf (M.guard b m))) := fun {b m} hb => by
    cases b with
    | true => exact hb rfl
    | false => exact pt_no fun ρ => rfl
  unfold cmpE
  split
  · rename_i op b
    refine key fun hb => PT.sub (pt_cmpR (r := rBin S W (cmpR op)) (op_cmp hK hu) (h _) (h _) (by simpa using hb)) fun σ H Q w => ?_
    obtain ⟨F, ρ, R, w⟩ := test_run w
    refine run_E2 R w fun r s F2 ρ2 H2 v u P rv ru _ _ w => ⟨F2, σ, ρ2, r, s, P.rep, rv, ru, ?_⟩
    rw [← cmpM_lift]
    exact Wg.imp w fun a F' ρ' H' _ g => g.mid P
  · exact key fun hb => PT.sub (pt_chain (op_cmp hK hu) (op_cmp hK hu) (h _) (h _) (h _) (by simpa using hb)) fun σ H Q w => chain_run (a := l) (b := l) (c := l) (test_run w)
  · exact pt_no fun ρ => rfl
/-! unary, and, or, if-else -/
theorem pe_unE {a : Expr} {op : UnaryOp} {pos : Pos} {ma : M Rv} (hK : X.K = S.K) (ha : PE X a (tE S W ma)) : PE X (.UnaryOp op a pos) (tE S W (M.bnd ma fun x => lift1 (unD op) x)) := by
  cases op with
  | USub =>
    refine PE.sub (pe_un un_neg ha) fun σ H Q ⟨F, ρ, R, w⟩ => run_E R w fun r F1 ρ1 H1 v P rv nv w => ?_
    obtain ⟨d, z, hd, hz, w⟩ := lift1_inv w
    have t := peek_top P.rep rv hd
    cases d <;> cases hz
    rename_i i
    exact ⟨i, t, Wg.now P.rep w _ rfl trivial⟩
  | Not =>
    refine PE.sub (pe_notT ha) fun σ H Q ⟨F, ρ, R, w⟩ => run_E R w fun r F1 ρ1 H1 v P rv nv w => ?_
    obtain ⟨d, z, hd, hz, w⟩ := lift1_inv w
    have t := peek_top P.rep rv hd
    have hz : (truD d).map (fun b => Rv.val (.bl (!b))) = some z := by cases d <;> exact hz
    cases hb : truD d with
    | none => rw [hb] at hz; cases hz
    | some b =>
      rw [hb] at hz
      cases hz
      refine ⟨b, by rw [hK]; exact tru_top t hb, Wg.now P.rep w _ rfl trivial⟩
  | Invert =>
    refine PE.sub (pe_un (r := fun _ _ _ => False) (fun pins s σ H x v Q I r h => h.elim) ha) fun σ H Q ⟨F, ρ, R, w⟩ => run_E R w fun r F1 ρ1 H1 v P rv nv w => ?_
    obtain ⟨d, z, hd, hz, w⟩ := lift1_inv w
    cases d <;> cases hz
  | UAdd =>
    refine PE.sub (pe_un (r := fun _ _ _ => False) (fun pins s σ H x v Q I r h => h.elim) ha) fun σ H Q ⟨F, ρ, R, w⟩ => run_E R w fun r F1 ρ1 H1 v P rv nv w => ?_
    obtain ⟨d, z, hd, hz, w⟩ := lift1_inv w
    cases d <;> cases hz
theorem pe_boolE {f : Expr → M Rv} {op : BoolOp} {pos : Pos} (hK : X.K = S.K) : ∀ {es : List Expr}, (∀ e, PE X e (tE S W (f e))) → PE X (.BoolOp op es pos) (tE S W (evBool f op es))
  | [], h => by cases op <;> exact pe_no fun ρ => rfl
  | [e], h => by cases op <;> exact pe_one (h e)
  | e :: e' :: es, h => by
    have ih := pe_boolE (op := op) (pos := pos) hK (es := e' :: es) h
    cases op with
    | And =>
      refine PE.sub (pe_andT (h e) ih) fun σ H Q ⟨F, ρ, R, w⟩ => run_E R w fun r F1 ρ1 H1 v P rv nv w => ?_
      obtain ⟨d, hd, w⟩ := Wg.look w
      obtain ⟨b, hb, w⟩ := Wg.opt w
      refine ⟨b, by rw [hK]; exact tru_top (peek_top P.rep rv hd) hb, ?_⟩
      cases b with
      | true => rw [if_pos rfl]; exact ⟨F1, ρ1, P.rep, w.imp fun a F' ρ' H' _ g => g.mid P⟩
      | false => rw [if_neg Bool.false_ne_true]; exact Wg.now P.rep w v rv nv
    | Or =>
      refine PE.sub (pe_orT (h e) ih) fun σ H Q ⟨F, ρ, R, w⟩ => run_E R w fun r F1 ρ1 H1 v P rv nv w => ?_
      obtain ⟨d, hd, w⟩ := Wg.look w
      obtain ⟨b, hb, w⟩ := Wg.opt w
      refine ⟨b, by rw [hK]; exact tru_top (peek_top P.rep rv hd) hb, ?_⟩
      cases b with
      | true => rw [if_pos rfl]; exact Wg.now P.rep w v rv nv
      | false => rw [if_neg Bool.false_ne_true]; exact ⟨F1, ρ1, P.rep, w.imp fun a F' ρ' H' _ g => g.mid P⟩
theorem pw_tests {g : Expr → M Bool} {op : BoolOp} {pos : Pos} : ∀ {es : List Expr}, (∀ e, PT X e (tT S W (g e))) → PW X (.BoolOp op es pos) (tT S W (evTests g op es))
  | [], h => ⟨fun _ pins s σ H Q I ⟨F, ρ, _, w⟩ => by cases op <;> exact w.elim⟩
  | [e], h => by cases op; exact pw_and1 (h e); exact pw_or1 (h e)
  | e :: e' :: es, h => by
    have ih := pw_tests (op := op) (pos := pos) (es := e' :: es) h
    cases op with
    | And =>
      refine PW.sub (pw_and (h e) ih) fun σ H Q ⟨F, ρ, R, w⟩ => run_T R w fun b F1 ρ1 H1 P w => ?_
      cases b with
      | true => rw [if_pos rfl]; exact ⟨F1, ρ1, P.rep, w⟩
      | false => rw [if_neg Bool.false_ne_true]; exact Wg.now P.rep w
    | Or =>
      refine PW.sub (pw_or (h e) ih) fun σ H Q ⟨F, ρ, R, w⟩ => run_T R w fun b F1 ρ1 H1 P w => ?_
      cases b with
      | true => rw [if_pos rfl]; exact Wg.now P.rep w
      | false => rw [if_neg Bool.false_ne_true]; exact ⟨F1, ρ1, P.rep, w⟩
theorem pt_notE {a : Expr} {pos : Pos} {m : M Bool} (h : PT X a (tT S W m)) : PT X (.UnaryOp .Not a pos) (tT S W (M.bnd m fun b => M.ret (!b))) :=
  PT.sub (pt_not h) fun σ H Q ⟨F, ρ, R, w⟩ => run_T R w fun b F1 ρ1 H1 P w => Wg.now P.rep w
theorem pt_plain {a : Expr} {m : M Rv} (hK : X.K = S.K) (h : PE X a (tE S W m)) (he : ∀ whole, isTrue a X.env whole = (do let v ← whole; standAt a.pos; holding [v] (truthy v))) : PT X a (tT S W (M.bnd m fun r => M.bnd (look r) fun d => M.opt (truD d))) :=
  PT.sub (pt_truth h he) fun σ H Q ⟨F, ρ, R, w⟩ => run_E R w fun r F1 ρ1 H1 v P rv nv w => by
    obtain ⟨d, hd, w⟩ := Wg.look w
    obtain ⟨b, hb, w⟩ := opt_end w
    exact ⟨b, by rw [hK]; exact tru_top (peek_top P.rep rv hd) hb, Wg.now P.rep w⟩
theorem pe_ifE {c a b : Expr} {pos : Pos} {mc : M Bool} {ma mb : M Rv} (hc : PT X c (tT S W mc)) (ha : PE X a (tE S W ma)) (hb : PE X b (tE S W mb)) : PE X (.IfExp c a b pos) (tE S W (M.bnd mc fun k => match k with | true => ma | false => mb)) :=
  PE.sub (pe_ifExp hc ha hb) fun σ H Q ⟨F, ρ, R, w⟩ => run_T R w fun k F1 ρ1 H1 P w => by
    cases k with
    | true => rw [if_pos rfl]; exact ⟨F1, ρ1, P.rep, Wg.imp w fun a F' ρ' H' _ g => g.mid P⟩
    | false => rw [if_neg Bool.false_ne_true]; exact ⟨F1, ρ1, P.rep, Wg.imp w fun a F' ρ' H' _ g => g.mid P⟩
/-! slices -/
def tO (S : Sx) (W : WX) (m : M (Option Int)) : TO := fun σ H Q => ∃ F ρ, SRep S F σ ρ H ∧ Wg S W σ F ρ H (m ρ) (fun o _ _ H' => Q o H')
theorem po_part {f : Expr → M Rv} {o : Option Expr} (h : ∀ e, PE X e (tE S W (f e))) : PO X o (tO S W (partD o f)) := by
  cases o with
  | none => exact ⟨fun pins s σ H Q I ⟨F, ρ, R, w⟩ => po_none.run pins s σ H Q I (Wg.now R w)⟩
  | some e =>
    refine ⟨fun pins s σ H Q I ⟨F, ρ, R, w⟩ => (po_some (h e)).run pins s σ H Q I (run_E R w fun r F1 ρ1 H1 v P rv nv w => ?_)⟩
    split at w
    · rename_i i
      exact ⟨i, rv, Wg.now P.rep w⟩
    · exact w.elim
theorem run_O {m : M (Option Int)} {k : Option Int → M β} {G : β → Fz → List Sl → Hp → Prop} {Q : Option Int → Hp → Prop} (R : SRep S F σ ρ H) (h : Wg S W σ F ρ H (M.bnd m k ρ) G)
    (i : ∀ b F1 ρ1 H1, Post S F σ ρ H F1 σ ρ1 H1 → Wg S W σ F1 ρ1 H1 (k b ρ1) G → Q b H1) : tO S W m σ H Q :=
  ⟨F, ρ, R, h.bnd.imp fun b F1 ρ1 H1 p w => i b F1 ρ1 H1 p w⟩
theorem pe_slE {f : Expr → M Rv} {a : Expr} {lo hi : Option Expr} {p2 pos : Pos} (hK : X.K = S.K) (h : ∀ e, PE X e (tE S W (f e))) : PE X (.Subscript a (.Slice lo hi none p2) pos) (tE S W (M.bnd (f a) fun r => M.bnd (partD lo f) fun l => M.bnd (partD hi f) fun u => lift1 (fun d => slD d l u) r)) :=
  PE.sub (pe_slice (sl_D hK) (h a) (po_part h) (po_part h)) fun σ H Q ⟨F, ρ, R, w⟩ => run_E R w fun r F1 ρ1 H1 v P rv nv w => run_O P.rep w fun l F2 ρ2 H2 P2 w => run_O P2.rep w fun u F3 ρ3 H3 P3 w =>
    ⟨F3, σ, ρ3, r, P3.rep, (rv.mono P.rep P2).mono P2.rep P3, w.imp fun a F' ρ' H' _ g => g.mid (P.trans (P2.trans P3))⟩
theorem rev_reps {S : Sx} {F : Fz} {H : Hp} : ∀ {ds : List D} {vs : List V}, reps S F H ds vs → reps S F H ds.reverse vs.reverse := by
  have app : ∀ {ds es : List D} {vs us : List V}, reps S F H ds vs → reps S F H es us → reps S F H (ds ++ es) (vs ++ us) := by
    intro ds
    induction ds with
    | nil => intro es vs us h g; rw [show vs = [] from h]; exact g
    | cons d ds ih =>
      intro es vs us h g
      obtain ⟨v, ws, rfl, h1, h2⟩ := h
      exact ⟨v, ws ++ us, rfl, h1, ih h2 g⟩
  intro ds
  induction ds with
  | nil => intro vs h; rw [show vs = [] from h]; exact rfl
  | cons d ds ih =>
    intro vs h
    obtain ⟨v, ws, rfl, h1, h2⟩ := h
    rw [List.reverse_cons, List.reverse_cons]
    exact app (ih h2) ⟨v, [], rfl, h1, rfl⟩
theorem pe_revE {a : Expr} {k : Nat} {p1 p2 p3 pos : Pos} {m : M Rv} (hK : X.K = S.K) (h : PE X a (tE S W m)) : PE X (.Subscript a (.Slice none none (some (.UnaryOp .USub (.Constant (.int 1) k p1) p2)) p3) pos) (tE S W (M.bnd m fun r => lift1 revD r)) :=
  PE.sub (pe_revZ h) fun σ H Q ⟨F, ρ, R, w⟩ => run_E R w fun r F1 ρ1 H1 v P rv nv w => by
    obtain ⟨d, z, p1, hz, w⟩ := lift1_inv w
    have t1 := peek_top P.rep rv p1
    unfold revD at hz
    split at hz
    · cases hz
      obtain ⟨a, vs, rfl, t, rr⟩ := t1
      exact ⟨a, vs, rfl, .inr ⟨hK ▸ t.seq, fun p ob n hd => put_tup (Q := Q) P.rep (w.imp fun a F' ρ' H' _ g => g.mid P) (rev_reps rr) n hd⟩⟩
    · cases hz
      obtain ⟨a, vs, rfl, t, rr⟩ := t1
      exact ⟨a, vs, rfl, .inl ⟨SqL.of t, fun p n => put_lst (Q := Q) P.rep (w.imp fun a F' ρ' H' _ g => g.mid P) (rev_reps rr) n⟩⟩
    · cases hz
theorem pe_dictE {pos : Pos} : PE X (.Dict [] [] pos) (tE S W (M.ret (.val .emp))) :=
  PE.sub pe_dnewK fun σ H Q ⟨F, ρ, R, w⟩ p n => by
    have P := post_new (o := .dK []) R n
    have ne : ∀ b u, H b = some u → b ≠ p := fun b u e z => by rw [z, n] at e; cases e
    refine w (fun x => F x ∨ x = p) _ ⟨⟨P.step.keep, fun a f => .inl f, fun a f => f.elim .inl fun z => .inr (.inl (z ▸ Nn.of n)), P.step.ex⟩, ⟨P.rep.len, fun i s hs => slot_mono (kp_more F _) hs (P.rep.all i s hs) (fun x ox f => ?_) fun x u _ e => e, P.rep.inj, fun x f => ?_, P.rep.tabs⟩, P.oa, P.bor⟩ (.ref p) ⟨p, rfl, .inr rfl, upd_same⟩ trivial
    · rcases f with f | f
      · exact (P.rep.oa ox).1 f
      · obtain ⟨_, vs, e⟩ := P.rep.oa ox
        rw [f, upd_same] at e
        cases e
    · rcases f with f | f
      · exact P.rep.fz x f
      · exact .inr (f ▸ upd_same)
theorem pe_constE {v : V} {d : D} {e : Expr} (h : PE X e (tC v)) (r : ∀ F H, rep S F H d v) : PE X e (tE S W (M.ret (.val d))) :=
  PE.sub h fun σ H Q ⟨F, ρ, R, w⟩ => Wg.now R w v (r F H) trivial
theorem pe_varE {i : Nat} {x : Str} {pos : Pos} (hN : X.N[i]? = some x) (hv : Vis X.env.scope x) (hd : (x == ("__debug__" : Str)) = false) (hcd : (x == ("__classdict__" : Str)) = false) : PE X (.Name x pos) (tE S W (varM i)) :=
  PE.sub (pe_var hN hv hd hcd) fun σ H Q ⟨F, ρ, R, w⟩ => by
    unfold varM at w
    split at w
    · rename_i d e
      obtain ⟨v, ev, rv⟩ := R.all i _ e
      exact ⟨v, ev, Wg.now R w v rv trivial⟩
    · rename_i o e
      obtain ⟨a, ev, _, _⟩ := R.all i _ e
      exact ⟨.ref a, ev, Wg.now R w (.ref a) ev trivial⟩
    · rename_i o e
      obtain ⟨a, ev, _, _⟩ := R.all i _ e
      exact ⟨.ref a, ev, Wg.now R w (.ref a) ev trivial⟩
    · exact w.elim
end
end Pyd
end

section
set_option Elab.async false
set_option linter.all false
set_option maxRecDepth 100000
set_option maxHeartbeats 4000000
/-! Pyd, part M: targets. -/
namespace Pyd
open PySem PySem.Spec L2
open PyProof.Rows hiding St
/-- what stands by itself stays so, but for what is told by ex -/
def Sv (F : Fz) (σ : St) (ρ : List Sl) (H : Hp) (F' : Fz) (σ' : St) (ρ' : List Sl) (H' : Hp) (ex : Addr → Prop) : Prop :=
  Kp F H F' H' ∧ ∀ a us, ¬ F a → ¬ OA σ ρ a → ¬ ex a → H a = some (.lst us) → ¬ F' a ∧ ¬ OA σ' ρ' a ∧ H' a = some (.lst us)
def exS (s : Sl) (v : V) (a : Addr) : Prop := IsOwnS s ∧ v = .ref a
def exSs : List Sl → List V → Addr → Prop
  | s :: ss, v :: vs, a => exS s v a ∨ exSs ss vs a
  | _, _, _ => False
section
variable (S : Sx) (W : WX)
def Ag (L : List Nat) (σ σ' : St) : Prop := σ'.length = σ.length ∧ ∀ j, j ∉ L → σ'[j]? = σ[j]?
def tG (L : List Nat) (g : Sl → M Unit) : TG := fun v σ H K => ∃ σ0 F0 ρ0 H0 F ρ s, Post S F0 σ0 ρ0 H0 F σ ρ H ∧ StoR S F σ ρ H s v ∧ NewS H0 s v ∧
  WgS S W σ0 F0 ρ0 H0 (g s ρ) (fun _ σ' F' ρ' H' => Post S F0 σ0 ρ0 H0 F' σ' ρ' H' → Sv F σ ρ H F' σ' ρ' H' (exS s v) → Ag L σ σ' → K σ' H')
def tGs (L : List Nat) (g : List Sl → M Unit) : TGs := fun vs σ H K => ∃ σ0 F0 ρ0 H0 F ρ ss, Post S F0 σ0 ρ0 H0 F σ ρ H ∧ StoRs S F σ ρ H ss vs ∧ NewSs H0 ss vs ∧
  WgS S W σ0 F0 ρ0 H0 (g ss ρ) (fun _ σ' F' ρ' H' => Post S F0 σ0 ρ0 H0 F' σ' ρ' H' → Sv F σ ρ H F' σ' ρ' H' (exSs ss vs) → Ag L σ σ' → K σ' H')
end
section
variable {S : Sx} {W : WX} {X : Cx} {σ σ0 σ1 : St} {F F0 F1 : Fz} {ρ ρ0 ρ1 : List Sl} {H H0 H1 : Hp} {α β : Type}
theorem Ag.refl {L : List Nat} : Ag L σ σ := ⟨rfl, fun _ _ => rfl⟩
theorem Ag.trans {L L' M : List Nat} {σ2 : St} (a : Ag L σ σ1) (b : Ag L' σ1 σ2) (h : ∀ j, j ∈ L → j ∈ M) (h' : ∀ j, j ∈ L' → j ∈ M) : Ag M σ σ2 := ⟨b.1.trans a.1, fun j n => (b.2 j fun z => n (h' j z)).trans (a.2 j fun z => n (h j z))⟩
theorem Sv.refl {ex : Addr → Prop} : Sv F σ ρ H F σ ρ H ex := ⟨Kp.refl _ _, fun _ _ f o _ e => ⟨f, o, e⟩⟩
theorem Sv.post {σ' : St} {F' : Fz} {ρ' : List Sl} {H' : Hp} {ex : Addr → Prop} (P : Post S F σ ρ H F' σ' ρ' H') (R : SRep S F σ ρ H) : Sv F σ ρ H F' σ' ρ' H' ex :=
  ⟨P.kp R, fun a us f o _ e => ⟨fun f' => (P.step.fn a f').elim f fun z => z.elim (fun z => z.lst e) o, fun o' => (P.oa a o').elim o fun z => z.lst e, P.step.keep a _ e (fun ps z => nomatch z) o⟩⟩
theorem Sv.trans {σ2 : St} {F2 : Fz} {ρ2 : List Sl} {H2 : Hp} {e1 e2 e3 : Addr → Prop} (p : Sv F σ ρ H F1 σ1 ρ1 H1 e1) (q : Sv F1 σ1 ρ1 H1 F2 σ2 ρ2 H2 e2) (h1 : ∀ a, e1 a → e3 a) (h2 : ∀ a, e2 a → e3 a) : Sv F σ ρ H F2 σ2 ρ2 H2 e3 :=
  ⟨p.1.trans q.1, fun a us f o x e => by
    obtain ⟨f', o', e'⟩ := p.2 a us f o (fun z => x (h1 a z)) e
    exact q.2 a us f' o' (fun z => x (h2 a z)) e'⟩
theorem Sv.imp {σ' : St} {F' : Fz} {ρ' : List Sl} {H' : Hp} {e1 e2 : Addr → Prop} (p : Sv F σ ρ H F' σ' ρ' H' e1) (h : ∀ a, e1 a → e2 a) : Sv F σ ρ H F' σ' ρ' H' e2 := ⟨p.1, fun a us f o x e => p.2 a us f o (fun z => x (h a z)) e⟩
theorem StoR.sv {σ' : St} {F' : Fz} {ρ' : List Sl} {H' : Hp} {ex : Addr → Prop} {s : Sl} {v : V} (p : Sv F σ ρ H F' σ' ρ' H' ex) (h : StoR S F σ ρ H s v) (n : IsOwnS s → ∀ a, v = .ref a → ¬ ex a) : StoR S F' σ' ρ' H' s v := by
  cases s with
  | emp => exact h
  | bor o => exact h
  | val d => exact rep_mono p.1 d v h
  | own o =>
    obtain ⟨a, e, nf, no, q⟩ := h
    obtain ⟨us, ea⟩ := obj_lst q
    obtain ⟨f', o', e'⟩ := p.2 a us nf no (n trivial a e) ea
    exact ⟨a, e, f', o', obj_mono p.1 q fun u eu => by rw [ea] at eu; cases eu; exact e'⟩
theorem StoRs.sv {σ' : St} {F' : Fz} {ρ' : List Sl} {H' : Hp} {ex : Addr → Prop} (p : Sv F σ ρ H F' σ' ρ' H' ex) : ∀ {ss : List Sl} {vs : List V}, StoRs S F σ ρ H ss vs → (∀ (j : Nat) s v a, ss[j]? = some s → vs[j]? = some v → IsOwnS s → v = .ref a → ¬ ex a) → StoRs S F' σ' ρ' H' ss vs
  | [], _, h, _ => h
  | s :: ss, _, h, n => by
    obtain ⟨v, us, rfl, h1, h2, sep⟩ := h
    exact ⟨v, us, rfl, h1.sv p fun o a e => n 0 s v a rfl rfl o e, StoRs.sv p h2 fun j s' v' a e1 e2 => n (j + 1) s' v' a (by simpa using e1) (by simpa using e2), sep⟩
theorem run_ES2 {m : M Rv} {k : Rv → M β} {G : β → St → Fz → List Sl → Hp → Prop} {Q : VK} (P : Post S F0 σ0 ρ0 H0 F σ ρ H) (h : WgS S W σ0 F0 ρ0 H0 (M.bnd m k ρ) G)
    (i : ∀ r F1 ρ1 H1 v, Post S F σ ρ H F1 σ ρ1 H1 → RepR S F1 σ ρ1 H1 r v → New H r v → WgS S W σ0 F0 ρ0 H0 (k r ρ1) G → Q v H1) : tE S W m σ H Q :=
  ⟨F, ρ, P.rep, (h.bndE P).imp fun r F1 ρ1 H1 p w v rv nv => i r F1 ρ1 H1 v p rv nv w⟩
theorem name_run {L : List Nat} {i : Nat} {v : V} {σ : St} {H : Hp} {K : St → Hp → Prop} (hL : i ∈ L) (h : tG S W L (storeAt i) v σ H K) : gName i v σ H K := by
  obtain ⟨σ0, F0, ρ0, H0, F, ρ, s, P, r, n, w⟩ := h
  obtain ⟨s', hs, nb, w⟩ := storeAt_inv w
  have P' := post_store P hs nb r n
  refine WgS.ok w P' P' ⟨Kp.refl _ _, fun a us f o ex e => ⟨f, fun ⟨j, oj, ej⟩ => ?_, e⟩⟩ ⟨List.length_set .., fun j n => by rw [List.getElem?_set_ne (fun (z : i = j) => n (z ▸ hL))]⟩
  have hi' : i < ρ.length := (List.getElem?_eq_some_iff.mp hs).1
  have hσ : i < σ.length := by rw [P.rep.len]; exact hi'
  rcases own_set oj with ⟨z, o', z'⟩ | ⟨z, oj'⟩
  · subst z
    rw [List.getElem?_set_self hσ] at ej
    refine ex ⟨?_, by cases ej; rfl⟩
    rcases z' with z' | z'
    · rw [z']; trivial
    · rw [z'] at r; exact r.elim
  · rw [List.getElem?_set_ne (Ne.symm z)] at ej
    exact o ⟨j, oj', ej⟩
theorem pg_nameD {i : Nat} {x : Str} {p : Pos} (hN : X.N.Nodup) (hi : X.N[i]? = some x) (hx : Loc X.env.scope x) (hf : X.fn x = true ∨ X.env.scope.names.lookup x = some .local) : PG X (.Name x p) (tG S W [i] (storeAt i)) :=
  PG.sub (pg_name hN hi hx hf) fun v σ H K h => name_run (List.mem_singleton.mpr rfl) h
theorem assignEach_no {env : Env} : ∀ {es : List Expr}, noStar es = true → assignEach es env = es.map fun e => (false, assign e env)
  | [], _ => rfl
  | e :: es, h => by
    have h1 := star_of h e List.mem_cons_self
    have h2 : noStar es = true := by
      unfold noStar at h ⊢
      rw [List.all_cons, Bool.and_eq_true] at h
      exact h.2
    have ih := assignEach_no (env := env) h2
    cases e <;> first | (exact absurd rfl (h1 _ _)) | (show (false, _) :: assignEach es env = _; rw [ih]; rfl)
theorem noStar_tail {e : Expr} {es : List Expr} (h : noStar (e :: es) = true) : noStar es = true := by
  unfold noStar at h ⊢
  rw [List.all_cons, Bool.and_eq_true] at h
  exact h.2
theorem pgs_no {L : List Nat} {ts : List Expr} {g : List Sl → M Unit} (h : ∀ ss ρ, g ss ρ = .bad) : PGs X ts (tGs S W L g) := ⟨fun pins s σ H vs us Q I r ⟨_, _, _, _, _, _, _, _, _, _, w⟩ => by rw [h] at w; exact w.elim⟩
theorem pg_no {L : List Nat} {t : Expr} {g : Sl → M Unit} (h : ∀ s ρ, g s ρ = .bad) : PG X t (tG S W L g) := ⟨fun pins s σ H v u Q I r ⟨_, _, _, _, _, _, _, _, _, _, w⟩ => by rw [h] at w; exact w.elim⟩
theorem exSs_at : ∀ {ss : List Sl} {vs : List V} {a : Addr}, exSs ss vs a → ∃ (j : Nat) (s : Sl) (v : V), ss[j]? = some s ∧ vs[j]? = some v ∧ exS s v a
  | s :: ss, v :: vs, a, h => by
    rcases h with h | h
    · exact ⟨0, s, v, rfl, rfl, h⟩
    · obtain ⟨j, s', v', e1, e2, e3⟩ := exSs_at h
      exact ⟨j + 1, s', v', by simpa using e1, by simpa using e2, e3⟩
  | [], _, _, h => h.elim
  | _ :: _, [], _, h => h.elim
theorem assigns_nil {L : List Nat} {g : Expr → Sl → M Unit} {vs : List V} {σ : St} {H : Hp} {K : St → Hp → Prop} (h : tGs S W L (assigns g []) vs σ H K) : gNil vs σ H K := by
  obtain ⟨σ0, F0, ρ0, H0, F, ρ, ss, P, st, n, w⟩ := h
  cases ss with
  | nil =>
    have e : vs = [] := st
    subst e
    exact ⟨rfl, WgS.ok w P P Sv.refl Ag.refl⟩
  | cons _ _ => exact w.elim
theorem assigns_cons {L : Expr → List Nat} {g : Expr → Sl → M Unit} {t : Expr} {ts : List Expr} {vs : List V} {σ : St} {H : Hp} {K : St → Hp → Prop} (h : tGs S W ((t :: ts).flatMap L) (assigns g (t :: ts)) vs σ H K) : gCons (tG S W (L t) (g t)) (tGs S W (ts.flatMap L) (assigns g ts)) vs σ H K := by
  obtain ⟨σ0, F0, ρ0, H0, F, ρ, ss, P, st, n, w⟩ := h
  cases ss with
  | nil => exact w.elim
  | cons s ss =>
    obtain ⟨v, vs, rfl, r1, r2, sep⟩ := st
    refine ⟨v, vs, rfl, σ0, F0, ρ0, H0, F, ρ, s, P, r1, n.1, (WgS.bnd0 (m := g t s) (k := fun _ => assigns g ts ss) w).imp fun _ σ1 F1 ρ1 H1 _ w1 P1 sv ag => ?_⟩
    refine ⟨σ0, F0, ρ0, H0, F1, ρ1, ss, P1, r2.sv sv fun j s' v' a e1 e2 o' ev x => ?_, n.2, w1.imp fun _ σ2 F2 ρ2 H2 _ k P2 sv2 ag2 => k P2 (sv.trans sv2 (fun a z => .inl z) fun a z => .inr z) (ag.trans ag2 (fun j z => by rw [List.flatMap_cons]; exact List.mem_append_left _ z) fun j z => by rw [List.flatMap_cons]; exact List.mem_append_right _ z)⟩
    exact sep x.1 j s' v' e1 e2 o' (ev.trans x.2.symm)
theorem pgs_assigns {L : Expr → List Nat} {g : Expr → Sl → M Unit} : ∀ {ts : List Expr}, noStar ts = true → (∀ t ∈ ts, PG X t (tG S W (L t) (g t))) → PGs X ts (tGs S W (ts.flatMap L) (assigns g ts))
  | [], _, _ => ⟨fun pins s σ H vs us Q I r w => pgs_nil.run pins s σ H vs us Q I r (assigns_nil w)⟩
  | t :: ts, ns, h => by
    have ih := pgs_assigns (ts := ts) (noStar_tail ns) fun t' ht => h t' (List.mem_cons_of_mem _ ht)
    refine ⟨fun pins s σ H vs us Q I r w => (pgs_cons (h t List.mem_cons_self) ih ?_).run pins s σ H vs us Q I r (assigns_cons w)⟩
    have h1 := star_of ns t List.mem_cons_self
    cases t <;> first | rfl | exact absurd rfl (h1 _ _)
theorem PG.or {t : Expr} {g g' : TG} (h : PG X t g) (h' : PG X t g') : PG X t (fun v σ H K => g v σ H K ∨ g' v σ H K) :=
  ⟨fun pins s σ H v u Q I r w => w.elim (h.run pins s σ H v u Q I r) (h'.run pins s σ H v u Q I r)⟩
theorem StoRs.vals : ∀ {ds : List D} {vs : List V}, reps S F H ds vs → StoRs S F σ ρ H (ds.map Sl.val) vs
  | [], _, h => h
  | d :: ds, _, h => by
    obtain ⟨v, us, rfl, h1, h2⟩ := h
    exact ⟨v, us, rfl, h1, StoRs.vals h2, fun z => z.elim⟩
theorem NewSs.vals : ∀ {ds : List D} {vs : List V}, NewSs H (ds.map Sl.val) vs
  | [], _ => trivial
  | d :: ds, [] => trivial
  | d :: ds, v :: vs => ⟨trivial, NewSs.vals⟩
theorem exSs_vals : ∀ {ds : List D} {vs : List V} {a : Addr}, ¬ exSs (ds.map Sl.val) vs a
  | [], _, _, h => h
  | d :: ds, [], _, h => h
  | d :: ds, v :: vs, a, h => h.elim (fun z => z.1) fun z => exSs_vals z
def tupG (g : Expr → Sl → M Unit) (ts : List Expr) (s : Sl) : M Unit := match s with
  | .val d => M.bnd (M.opt (seqD d)) fun ds => M.guard (noStar ts && decide (ds.length = ts.length)) (assigns g ts (ds.map Sl.val))
  | _ => M.bad
theorem optS_inv {o : Option α} {k : α → M β} {G : β → St → Fz → List Sl → Hp → Prop} (h : WgS S W σ0 F0 ρ0 H0 (M.bnd (M.opt o) k ρ) G) : ∃ a, o = some a ∧ WgS S W σ0 F0 ρ0 H0 (k a ρ) G := by
  cases o with
  | none => exact h.elim
  | some a => exact ⟨a, rfl, h⟩
theorem pg_tupD {L : Expr → List Nat} {g : Expr → Sl → M Unit} {ts : List Expr} {k : Nat} {p : Pos} (hK : X.K = S.K) (hc : X.calm = true) (h : noStar ts = true → ∀ t ∈ ts, PG X t (tG S W (L t) (g t))) : PG X (.Tuple ts k p) (tG S W (ts.flatMap L) (tupG g ts)) := by
  by_cases ns : noStar ts = true
  · have he := assignEach_no (env := X.env) ns
    have gs := pgs_assigns ns (h ns)
    have n1 : (assignEach ts X.env).length = ts.length := by rw [he, List.length_map]
    have n2 : (assignEach ts X.env).findIdx? (·.1) = none := by
      rw [he, List.findIdx?_eq_none_iff]
      intro x hx
      obtain ⟨e, _, rfl⟩ := List.mem_map.mp hx
      rfl
    refine PG.sub (PG.or (pg_tup hc gs n1 n2) (pg_lst hc gs n1 n2)) fun v σ H K ⟨σ0, F0, ρ0, H0, F, ρ, s, P, r, n, w⟩ => ?_
    unfold tupG at w
    split at w
    · rename_i d
      obtain ⟨ds, hd, w⟩ := optS_inv w
      obtain ⟨gd, w⟩ := WgS.guard w
      rw [Bool.and_eq_true] at gd
      have hl := of_decide_eq_true gd.2
      obtain ⟨b, a, vs, rfl, rr, sq⟩ := seq_at (show rep S F H d v from r) hd
      have q := sq F H (Kp.refl _ _)
      rw [← hK] at q
      have rest : tGs S W (ts.flatMap L) (assigns g ts) vs σ H K := ⟨σ0, F0, ρ0, H0, F, ρ, ds.map Sl.val, P, StoRs.vals rr, NewSs.vals, w.imp fun _ σ' F' ρ' H' _ k P' sv ag => k P' (sv.imp fun a z => (exSs_vals z).elim) ag⟩
      cases b with
      | true => exact .inr ⟨a, vs, rfl, q, (reps_length rr).symm.trans hl, rest⟩
      | false => exact .inl ⟨a, vs, rfl, q, (reps_length rr).symm.trans hl, rest⟩
    · exact w.elim
  · refine pg_no fun s ρ => ?_
    unfold tupG
    have ns : noStar ts = false := by simpa using ns
    rw [ns]
    cases s <;> first | rfl | skip
    rename_i d
    cases e : seqD d <;> (show M.bnd (M.opt (seqD d)) _ ρ = _; rw [e]; rfl)
theorem ownThenS_inv {j : Nat} {m : M α} {G : α → St → Fz → List Sl → Hp → Prop} (h : WgS S W σ0 F0 ρ0 H0 (ownThen j m ρ) G) : ownSl ρ[j]? = true ∧ WgS S W σ0 F0 ρ0 H0 (m ρ) G := by
  unfold ownThen at h
  cases e : ownSl ρ[j]? with
  | true => rw [e] at h; exact ⟨rfl, h⟩
  | false => rw [e] at h; exact h.elim
theorem putVar_inv {j : Nat} {f : List D → Option (List D)} {G : Unit → St → Fz → List Sl → Hp → Prop} (h : WgS S W σ0 F0 ρ0 H0 (putVar j f ρ) G) : ∃ ds ds', (ρ[j]? = some (.own (.lst ds)) ∨ ρ[j]? = some (.bor (.lst ds))) ∧ f ds = some ds' ∧ WgS S W σ0 F0 ρ0 H0 (.ok () (putOb ρ j (.lst ds'))) G := by
  unfold putVar at h
  split at h
  · rename_i ds e
    split at h
    · rename_i ds' e2
      refine ⟨ds, ds', .inl e, e2, ?_⟩
      unfold putOb
      rw [e]
      exact h
    · exact h.elim
  · rename_i ds e
    split at h
    · rename_i ds' e2
      refine ⟨ds, ds', .inr e, e2, ?_⟩
      unfold putOb
      rw [e]
      exact h
    · exact h.elim
  · exact h.elim
def subG (f : Expr → M Rv) (j : Nat) (i : Expr) (s : Sl) : M Unit := match s with
  | .val d => ownThen j (M.bnd (f i) fun r => match r with
    | .val (.int k) => putVar j (setD k d)
    | _ => M.bad)
  | _ => M.bad
theorem pg_subD {f : Expr → M Rv} {j : Nat} {x : Str} {i : Expr} {p p2 : Pos} (hN : X.N[j]? = some x) (hv : Vis X.env.scope x) (hd : (x == ("__debug__" : Str)) = false) (hcd : (x == ("__classdict__" : Str)) = false) (hs : noSlice i = true) (h : PE X i (tE S W (f i))) :
    PG X (.Subscript (.Name x p) i p2) (tG S W [] (subG f j i)) := by
  refine PG.sub (pg_sub (pe_var hN hv hd hcd) h set_list (by
    intro v
    cases i <;> first | rfl | cases hs)) fun v σ H K ⟨σ0, F0, ρ0, H0, F, ρ, s, P, r, n, w⟩ => ?_
  unfold subG at w
  split at w
  · rename_i d
    obtain ⟨ho, w⟩ := ownThenS_inv w
    obtain ⟨a, ds0, vs0, ej, _, ea, _⟩ := own_lst P.rep (own_of ho)
    refine ⟨.ref a, ej, run_ES2 P w fun r1 F1 ρ1 H1 u P1 ru nu w => ?_⟩
    split at w
    · rename_i k
      obtain ⟨ds, ds', hj, hf, w⟩ := putVar_inv w
      have oj : OwnAt ρ1 j := ⟨_, hj⟩
      obtain ⟨a', ds1, us, ej', hj', ea', rs'⟩ := own_lst P1.rep oj
      rw [ej] at ej'
      cases ej'
      have eds : ds1 = ds := by
        rcases hj with z | z <;> rcases hj' with z' | z' <;> (rw [z] at z'; cases z') <;> rfl
      subst eds
      have hf : (ixN ds1.length k).map (fun j => ds1.set j d) = some ds' := hf
      cases hi : ixN ds1.length k with
      | none => rw [hi] at hf; cases hf
      | some m =>
        rw [hi] at hf
        cases hf
        have rd : rep S F1 H1 d v := rep_mono (P1.kp P.rep) d v r
        have pp := post_put (o' := .lst (ds1.set m d)) (us := us.set m v) P1.rep oj ej ea' fun H' kp e => ⟨_, e, reps_mono kp _ _ (reps_set rd m rs')⟩
        refine ⟨a, us, k, m, rfl, ru, ea', by rw [← reps_length rs']; exact hi, ?_⟩
        exact WgS.ok w (P.trans (P1.trans pp)) (P.trans (P1.trans pp)) (Sv.post (P1.trans pp) P.rep) Ag.refl
    · exact w.elim
  · exact w.elim
end
end Pyd
end

section
set_option Elab.async false
set_option linter.all false
set_option maxRecDepth 100000
set_option maxHeartbeats 4000000
/-! Pyd, part N: statements. -/
namespace Pyd
open PySem PySem.Spec L2
open PyProof.Rows hiding St
section
variable {S : Sx} {W : WX} {X : Cx} {σ σ0 σ1 : St} {F F0 F1 : Fz} {ρ ρ0 ρ1 : List Sl} {H H0 H1 : Hp} {α β : Type}
theorem run_SS2 {m : M Pyd.Flow} {k : Pyd.Flow → M β} {G : β → St → Fz → List Sl → Hp → Prop} {D : Ends} (P : Post S F0 σ0 ρ0 H0 F σ ρ H) (h : WgS S W σ0 F0 ρ0 H0 (M.bnd m k ρ) G)
    (i : ∀ fl σ1 F1 ρ1 H1, Post S F σ ρ H F1 σ1 ρ1 H1 → WgS S W σ0 F0 ρ0 H0 (k fl ρ1) G → GS S H D fl σ1 F1 ρ1 H1) : tS S W m D σ H :=
  ⟨F, ρ, P.rep, (h.bnd0.shift P).imp fun fl σ1 F1 ρ1 H1 p w => i fl σ1 F1 ρ1 H1 p w⟩
theorem ps_no {s : Stmt} {m : M Pyd.Flow} (h : ∀ ρ, m ρ = .bad) : PS X s (tS S W m) := ⟨fun pins s σ H D I ⟨F, ρ, _, w⟩ => by rw [h] at w; exact w.elim⟩
theorem ps_guardM {s : Stmt} {b : Bool} {m : M Pyd.Flow} (h : b = true → PS X s (tS S W m)) : PS X s (tS S W (M.guard b m)) := by
  cases b with
  | true => exact h rfl
  | false => exact ps_no fun ρ => rfl
/-- the end of a statement that was read in full -/
theorem GS.up {fl : Pyd.Flow} {D : Ends} {F' : Fz} {σ' : St} {ρ' : List Sl} {H' : Hp} (s : ∀ a, Nn H a → Nn H0 a) (h : GS S H0 D fl σ' F' ρ' H') : GS S H D fl σ' F' ρ' H' := by
  cases fl with
  | nx => exact h
  | ret r => exact fun v rv nv => h v rv (by
      cases r with
      | val d => trivial
      | var i => trivial
      | own o => exact fun a e => s a (nv a e))
theorem asg_run {L : List Nat} {ma : M Rv} {gt : Sl → M Unit} {D : Ends} (h : tS S W (M.bnd ma fun r => M.bnd (toSl r) fun s => M.bnd (gt s) fun _ => M.ret .nx) D σ H) : tAsg (tE S W ma) (tG S W L gt) D σ H := by
  obtain ⟨F, ρ, R, w⟩ := h
  refine run_ES (Post.refl R) w fun r F1 ρ1 H1 v P rv nv w => ?_
  obtain ⟨s, ρ2, e, w⟩ := WgS.bnd_ok w toSl_noexc
  obtain ⟨F2, P2, sr, ns, _⟩ := toSl_post P rv nv e
  exact ⟨σ, F, ρ, H, F2, ρ2, s, P2, sr, ns, w.bnd0.imp fun _ σ3 F3 ρ3 H3 _ w3 P3 _ _ => WgS.ok w3 P3⟩
theorem ps_asgE {L : List Nat} {t e : Expr} {ma : M Rv} {gt : Sl → M Unit} {pos : Pos} (he : PE X e (tE S W ma)) (hg : PG X t (tG S W L gt)) (hs : swapsWithSole [t] e pos.line X.env = pure false) (hw : swappedStores [t] e X.env = pure none) (hst : ∀ e' p, t ≠ .Starred e' p) :
    PS X (.Assign [t] e pos) (tS S W (M.bnd ma fun r => M.bnd (toSl r) fun s => M.bnd (gt s) fun _ => M.ret .nx)) :=
  PS.sub (ps_asg he hg hs hw (by cases t <;> first | rfl | exact absurd rfl (hst _ _))) fun D σ H h => asg_run h
theorem pss_evBlk {f : Stmt → M Pyd.Flow} : ∀ {ss : List Stmt}, (∀ s, PS X s (tS S W (f s))) → PSs X ss (tS S W (evBlk f ss))
  | [], _ => PSs.sub pss_nil fun D σ H ⟨F, ρ, R, w⟩ => WgS.ok w (Post.refl R)
  | s :: ss, h => by
    have ih := pss_evBlk (ss := ss) h
    refine PSs.sub (pss_cons (h s) ih) fun D σ H ⟨F, ρ, R, w⟩ => run_SS2 (Post.refl R) w fun fl σ1 F1 ρ1 H1 P w => ?_
    cases fl with
    | nx => exact ⟨F1, ρ1, P.rep, (w.shift P).imp fun fl σ' F' ρ' H' _ g => g.up fun a e => P.step.none e⟩
    | ret r => exact WgS.ok (W := W) w P
theorem ps_ifE {t : Expr} {a b : List Stmt} {pos : Pos} {mt : M Bool} {ma mb : M Pyd.Flow} (ht : PT X t (tT S W mt)) (ha : PSs X a (tS S W ma)) (hb : PSs X b (tS S W mb)) : PS X (.If t a b pos) (tS S W (M.bnd mt fun c => match c with | true => ma | false => mb)) :=
  PS.sub (ps_if ht ha hb) fun D σ H ⟨F, ρ, R, w⟩ => run_TS (Post.refl R) w fun c F1 ρ1 H1 P w => by
    cases c with
    | true => rw [if_pos rfl]; exact ⟨F1, ρ1, P.rep, (WgS.shift P w).imp fun fl σ' F' ρ' H' _ g => g.up fun a e => P.step.none e⟩
    | false => rw [if_neg Bool.false_ne_true]; exact ⟨F1, ρ1, P.rep, (WgS.shift P w).imp fun fl σ' F' ρ' H' _ g => g.up fun a e => P.step.none e⟩
theorem ps_retE {e : Expr} {pos : Pos} {ma : M Rv} (he : PE X e (tE S W ma)) : PS X (.Return (some e) pos) (tS S W (M.bnd ma fun r => M.ret (.ret r))) :=
  PS.sub (ps_ret he) fun D σ H ⟨F, ρ, R, w⟩ => run_ES (Post.refl R) w fun r F1 ρ1 H1 v P rv nv w => WgS.ok w P v rv nv
theorem ps_retNE {pos : Pos} : PS X (.Return none pos) (tS S W (M.ret (.ret (.val .non)))) :=
  PS.sub ps_retN fun D σ H ⟨F, ρ, R, w⟩ => WgS.ok w (Post.refl R) .non rfl trivial
theorem ps_passE {pos : Pos} : PS X (.Pass pos) (tS S W (M.ret .nx)) := PS.sub ps_pass fun D σ H ⟨F, ρ, R, w⟩ => WgS.ok w (Post.refl R)
theorem ps_exprE {e : Expr} {pos : Pos} {ma : M Rv} (he : PE X e (tE S W ma)) (hc : isComp e = false) : PS X (.Expr e pos) (tS S W (M.bnd ma fun _ => M.ret .nx)) :=
  PS.sub (ps_expr he (by cases e <;> first | rfl | cases hc)) fun D σ H ⟨F, ρ, R, w⟩ => run_ES (Post.refl R) w fun r F1 ρ1 H1 v P rv nv w => WgS.ok w P
/-! loops -/
theorem for_run {L : List Nat} {mi : M (List D)} {gt : Sl → M Unit} {b : M Pyd.Flow} {D : Ends} (h : tS S W (M.bnd mi fun ds => loopF gt b ds) D σ H) : tFor (iD S W mi) (tG S W L gt) (tS S W b) D σ H := by
  obtain ⟨F, ρ, R, w⟩ := h
  refine ⟨F, ρ, R, (w.bndE (Post.refl R)).imp fun ds F1 ρ1 H1 P w J wk => ?_⟩
  refine ⟨fun i m σ' H' => i ≤ ds.length ∧ m = ds.length - i ∧ ∃ F' ρ', Post S F σ ρ H F' σ' ρ' H' ∧ Kp F1 H1 F' H' ∧ WgS S W σ F ρ H (loopF gt b (ds.drop i) ρ') (GS S H D), ⟨ds.length, Nat.zero_le _, rfl, F1, ρ1, P, Kp.refl _ _, w⟩, ?_⟩
  rintro i m σ' H' ⟨hi, rfl, F', ρ', P', kp, w⟩
  obtain ⟨go, stop, yld⟩ := wk F' H' kp
  by_cases hlt : i < ds.length
  · refine .inr ⟨go i hlt, fun σ2 H2 => ∃ F2 ρ2, Post S F σ ρ H F2 σ2 ρ2 H2 ∧ Kp F1 H1 F2 H2 ∧ WgS S W σ F ρ H (loopF gt b (ds.drop (i + 1)) ρ2) (GS S H D), fun σ2 H2 n => ⟨ds.length - (i + 1), by omega, hlt, rfl, n⟩, fun x H'' y => ?_⟩
    rw [List.drop_eq_getElem_cons hlt] at w
    have got : ∃ P'' : Post S F σ ρ H F' σ' ρ' H'', Kp F' H' F' H'' ∧ rep S F' H'' ds[i] x := by
      rcases yld i ds[i] x H'' (List.getElem?_eq_getElem hlt) y with ⟨rfl, rd⟩ | ⟨p, ob, vs, es, ed, rfl, n, hd, rfl, rr⟩
      · exact ⟨P', Kp.refl _ _, rd⟩
      · refine ⟨P'.trans (post_new P'.rep n), kp_new n, ?_⟩
        rw [ed]
        exact rep_tupNew n rr hd
    obtain ⟨P'', k2, rd⟩ := got
    refine ⟨σ, F, ρ, H, F', ρ', .val ds[i], P'', rd, trivial, (WgS.bnd0 (m := gt (.val ds[i])) w).imp fun _ σ2 F2 ρ2 H2 _ w2 P2 sv _ => ?_⟩
    refine run_SS2 P2 w2 fun fl σ3 F3 ρ3 H3 P3 w3 => ?_
    cases fl with
    | nx => exact ⟨F3, ρ3, P2.trans P3, ((kp.trans k2).trans sv.1).trans (P3.kp P2.rep), w3⟩
    | ret r => exact fun v rv nv => WgS.ok w3 (P2.trans P3) v rv (nv.back P2.step)
  · have e : i = ds.length := by omega
    subst e
    refine .inl ⟨stop, ?_⟩
    rw [List.drop_length] at w
    exact WgS.ok w P'
theorem while_run {t : M Bool} {b : M Pyd.Flow} {n : Nat} {D : Ends} (h : tS S W (loopW t b n) D σ H) : tWhile (tT S W t) (tS S W b) D σ H := by
  obtain ⟨F, ρ, R, w⟩ := h
  refine ⟨fun m σ' H' => ∃ F' ρ', Post S F σ ρ H F' σ' ρ' H' ∧ WgS S W σ F ρ H (loopW t b m ρ') (GS S H D), ⟨n, F, ρ, Post.refl R, w⟩, ?_⟩
  rintro m σ' H' ⟨F', ρ', P', w⟩
  cases m with
  | zero => exact w.elim
  | succ m =>
    refine run_TS P' w fun c F1 ρ1 H1 P1 w => ?_
    cases c with
    | false => rw [if_neg Bool.false_ne_true]; exact WgS.ok w P1
    | true =>
      rw [if_pos rfl]
      refine ⟨fun σ2 H2 => ∃ F2 ρ2, Post S F σ ρ H F2 σ2 ρ2 H2 ∧ WgS S W σ F ρ H (loopW t b m ρ2) (GS S H D), fun σ2 H2 n => ⟨m, Nat.lt_succ_self _, n⟩, run_SS2 P1 w fun fl σ3 F3 ρ3 H3 P3 w3 => ?_⟩
      cases fl with
      | nx => exact ⟨F3, ρ3, P1.trans P3, w3⟩
      | ret r => exact fun v rv nv => WgS.ok w3 (P1.trans P3) v rv (nv.back P1.step)
/-! a op= e -/
theorem aug_ints {op : Operator} {d e z : D} (h : augD op d e = some z) : ∃ i j, d = .int i ∧ e = .int j ∧ ((op = .Add ∧ z = .int (i + j)) ∨ (op = .Sub ∧ z = .int (i - j))) := by
  unfold augD at h
  split at h
  · cases h; exact ⟨_, _, rfl, rfl, .inl ⟨rfl, rfl⟩⟩
  · cases h; exact ⟨_, _, rfl, rfl, .inr ⟨rfl, rfl⟩⟩
  · cases h
def rAugI (op : Operator) : TIp := fun x y H Q => ∃ i j, x = .int i ∧ y = .int j ∧ ((op = .Add ∧ Q (.int (i + j)) H) ∨ (op = .Sub ∧ Q (.int (i - j)) H))
theorem ip_augI {op : Operator} : PIp X op (rAugI op) := by
  intro pins s σ H x y v u Q I rx ry ⟨i, j, hx, hy, h⟩
  rcases h with ⟨rfl, q⟩ | ⟨rfl, q⟩
  · exact ip_add pins s σ H x y v u Q I rx ry ⟨i, j, hx, hy, q⟩
  · exact ip_sub pins s σ H x y v u Q I rx ry ⟨i, j, hx, hy, q⟩
theorem ps_augE {i : Nat} {x : Str} {e : Expr} {op : Operator} {p pos : Pos} {me : M Rv} (hN : X.N.Nodup) (hi : X.N[i]? = some x) (hx : Loc X.env.scope x) (hf : X.fn x = true ∨ X.env.scope.names.lookup x = some .local) (he : PE X e (tE S W me)) :
    PS X (.AugAssign (.Name x p) op e pos) (tS S W (augM i op me)) := by
  refine PS.sub (ps_aug hN hi hx he ip_augI hf) fun D σ H ⟨F, ρ, R, w⟩ => ?_
  unfold augM at w
  split at w
  · rename_i d hd
    obtain ⟨x, ex, rx⟩ := R.all i _ hd
    rw [bnd_assoc] at w
    refine ⟨x, ex, run_ES (Post.refl R) w fun r F1 ρ1 H1 v P rv nv w => ?_⟩
    obtain ⟨e, ρ2, h1, w2⟩ := WgS.bnd_ok w (fun c x ρ' z => by
      unfold look at z
      split at z <;> cases z)
    have hl : peek r ρ1 = some e ∧ ρ2 = ρ1 := by
      unfold look at h1
      split at h1
      · rename_i d' hp; cases h1; exact ⟨hp, rfl⟩
      · cases h1
    obtain ⟨hl, rfl⟩ := hl
    obtain ⟨z, hz, w3⟩ := optS_inv w2
    clear w
    obtain ⟨s', hs, nb, w⟩ := storeAt_inv (G := fun _ _ _ ρ3 _ => WgS S W σ F ρ H (M.ret .nx ρ3) (GS S H D)) w3.bnd0
    have t := peek_top P.rep rv hl
    have fin : ∀ u, rep S F1 H1 z u → D.nx (σ.set i (some u)) H1 := fun u ru => by
      have P' := post_store (s := .val z) P hs nb ru trivial
      exact WgS.ok (WgS.ok w P') P'
    obtain ⟨a, b, rfl, rfl, hh⟩ := aug_ints hz
    refine ⟨a, b, rx, t, ?_⟩
    rcases hh with ⟨rfl, rfl⟩ | ⟨rfl, rfl⟩
    · exact .inl ⟨rfl, fin _ rfl⟩
    · exact .inr ⟨rfl, fin _ rfl⟩
  · exact w.elim
/-! a, b = x, y -/
theorem par_run {L : List Nat} {g : Expr → Sl → M Unit} {f : Expr → M Rv} {ts es : List Expr} {D : Ends} (h : tS S W (parM g f ts es) D σ H) : tA S W (evArgs f es) σ H fun vs H1 => tGs S W L (assigns g ts) vs σ H1 D.nx := by
  obtain ⟨F, ρ, R, w⟩ := h
  refine run_AS (Post.refl R) w fun rs F1 ρ1 H1 vs P rvs nvs w => ?_
  obtain ⟨ss, ρ2, e, w⟩ := WgS.bnd_ok w toSls_noexc
  obtain ⟨F2, P2, sr, ns, _⟩ := toSls_post P rvs nvs e
  exact ⟨σ, F, ρ, H, F2, ρ2, ss, P2, sr, ns, w.bnd0.imp fun _ σ3 F3 ρ3 H3 _ w3 P3 _ _ => WgS.ok w3 P3⟩
/-- the pair is unpacked at once -/
theorem ps_tupAsg {ts es : List Expr} {ta : TA} {g : TGs} {k k2 : Nat} {p p2 pos : Pos} (hc : X.calm = true) (ha : PA X es ta) (hg : PGs X ts g) (ns : noStar ts = true) (hl : ts.length = es.length) (hz : es.length ≤ sizeLine) (hw : swappedStores [.Tuple ts k p] (.Tuple es k2 p2) X.env = pure none)
    (hn : ∀ σ H R, ta σ H R → ta σ H fun vs H1 => vs.length = es.length ∧ R vs H1) :
    PS X (.Assign [.Tuple ts k p] (.Tuple es k2 p2) pos) (fun D σ H => ta σ H fun vs H1 => g vs σ H1 D.nx) := by
  refine ⟨fun pins s σ H D I h => ?_⟩
  refine wpAny_Assign_stores (wpAny_Tuple_spliced (thn (ha.run _ pins s σ H _ I (hn _ _ _ h)) fun us s1 ⟨vs, H1, I1, r1, hlv, q1⟩ => ?_)) rfl hw
  have lu : us.length = es.length := by rw [← r1.length]; exact hlv
  refine ⟨by rw [lu]; exact hz, ?_⟩
  have I2 : Inv X pins σ H1 { s1 with heap := s1.heap.push { cls := .type "tuple", data := .seq us.toArray } } := I1.kept (t' := s1.toks) fun _ _ e => Heap.get?_push_of_some _ e
  have he := assignEach_no (env := X.env) ns
  show wpAny _ _ (assign (.Tuple ts k p) X.env (.ref s1.heap.objs.size)) _ _ _
  refine assign_Tuple_tuple (I2.ok.hd hc) (IsTup.new s1.heap _) (by rw [he, List.length_map, List.size_toArray, lu, hl]) (by
    rw [he, List.findIdx?_eq_none_iff]
    intro x hx
    obtain ⟨e, _, rfl⟩ := List.mem_map.mp hx
    rfl) fun h' hx => ?_
  have I3 := I2.kept (h' := h') (t' := s1.toks) fun b o e => hx b o (Nat.ne_of_lt (Heap.lt_size e)) e
  exact hg.run pins _ σ H1 vs us _ I3 r1 q1
end
end Pyd
end

section
set_option Elab.async false
set_option linter.all false
set_option maxRecDepth 100000
set_option maxHeartbeats 4000000
/-! Pyd, part O: a, b = x, y in full. -/
namespace Pyd
open PySem PySem.Spec L2
open PyProof.Rows hiding St
theorem evArgs_len {f : Expr → M Rv} : ∀ {es : List Expr} {ρ ρ' : List Sl} {rs : List Rv}, evArgs f es ρ = .ok rs ρ' → rs.length = es.length
  | [], _, _, _, e => by cases e; rfl
  | e :: es, ρ, ρ', rs, h => by
    by_cases hs : ∃ e' p, e = .Starred e' p
    · obtain ⟨e', p, rfl⟩ := hs
      cases h
    · rw [evArgs_cons fun e' p z => hs ⟨e', p, z⟩] at h
      obtain ⟨r, ρ1, _, h⟩ := bnd_eq_ok h
      obtain ⟨rs', ρ2, h2, h⟩ := bnd_eq_ok h
      cases h
      rw [List.length_cons, List.length_cons, evArgs_len h2]
theorem reprs_len {S : Sx} {F : Fz} {σ : St} {ρ : List Sl} {H : Hp} : ∀ {rs : List Rv} {vs : List V}, RepRs S F σ ρ H rs vs → vs.length = rs.length
  | [], _, h => by rw [show _ = [] from h]; rfl
  | r :: rs, _, h => by
    obtain ⟨v, us, rfl, _, h2, _⟩ := h
    rw [List.length_cons, List.length_cons, reprs_len h2]
theorem fm_full {α β : Type} {f : α → Option β} : ∀ {l : List α}, (l.filterMap f).length = l.length → ∀ a ∈ l, ∃ b, f a = some b
  | [], _, _, h => by cases h
  | x :: l, e, a, h => by
    rw [List.filterMap_cons] at e
    cases hx : f x with
    | none =>
      rw [hx] at e
      have := List.length_filterMap_le f l
      simp only [List.length_cons] at e
      omega
    | some b =>
      rw [hx] at e
      rcases List.mem_cons.mp h with z | z
      · subst z; exact ⟨b, hx⟩
      · exact fm_full (by simpa using e) a z
/-- the names of a swap -/
def locNm (env : Env) (line : Nat) (e : Expr) : Option Str := match e with
  | .Name id pos => if env.kindOf id == some .local && pos.line == line then some id else none
  | _ => none
theorem locNm_some {env : Env} {line : Nat} {e : Expr} {x : Str} (h : locNm env line e = some x) : ∃ p, e = .Name x p ∧ env.kindOf x = some .local := by
  unfold locNm at h
  split at h
  · rename_i id pos
    by_cases hh : (env.kindOf id == some .local && pos.line == line) = true
    · rw [if_pos hh] at h
      have e : id = x := Option.some.inj h
      subst e
      rw [Bool.and_eq_true] at hh
      exact ⟨pos, rfl, by simpa using hh.1⟩
    · rw [if_neg hh] at h
      cases h
  · cases h
def swNames (ts : List Expr) (env : Env) : List Str := ts.filterMap (locNm env ((ts.head?.map (·.pos.line)).getD 0))
def swStar (es : List Expr) : Bool := es.any fun | .Starred .. => true | _ => false
theorem swapped_eq {ts es : List Expr} {k k2 : Nat} {p p2 : Pos} {env : Env} : swappedStores [.Tuple ts k p] (.Tuple es k2 p2) env =
    if (!(ts.length == 2 || ts.length == 3) || es.length != ts.length || env.blockKind != .function) = true then pure none else
      if swStar es = true then pure none else
        if ((swNames ts env).length != ts.length || (swNames ts env).eraseDups.length != (swNames ts env).length) = true then pure none else
          if es.all (foldedForSure 8) = true then pure none else
            if es.all (constantsAlone 8) = true then unsupported "assign.tuple-of-constant-expressions:order-of-the-stores" else pure (some (swNames ts env)) := by
  unfold swappedStores swNames swStar
  simp only []
  congr 1
theorem dups2 {x y : Str} (h : [x, y].eraseDups.length = 2) : x ≠ y := fun e => by
  subst e
  have z : [x, x].eraseDups = [x] := by simp [List.eraseDups_cons]
  rw [z] at h
  cases h
theorem dups3 {x y z : Str} (h : [x, y, z].eraseDups.length = 3) : x ≠ y ∧ x ≠ z ∧ y ≠ z := by
  refine ⟨fun e => ?_, fun e => ?_, fun e => ?_⟩ <;> subst e
  · by_cases q : z = x
    · subst q; simp [List.eraseDups_cons] at h
    · have q' : x ≠ z := fun e => q e.symm
      simp [List.eraseDups_cons, q] at h
  · by_cases q : y = x
    · subst q; simp [List.eraseDups_cons] at h
    · simp [List.eraseDups_cons, q] at h
  · by_cases q : y = x
    · subst q; simp [List.eraseDups_cons] at h
    · simp [List.eraseDups_cons, q] at h
theorem swap_cases {ts es : List Expr} {k k2 : Nat} {p p2 : Pos} {env : Env} (gd : (!es.all (constantsAlone 8) || es.all (foldedForSure 8)) = true) :
    swappedStores [.Tuple ts k p] (.Tuple es k2 p2) env = pure none ∨
      (∃ x px y py, ts = [.Name x px, .Name y py] ∧ env.kindOf x = some .local ∧ env.kindOf y = some .local ∧ x ≠ y ∧ swappedStores [.Tuple ts k p] (.Tuple es k2 p2) env = pure (some [x, y])) ∨
        ∃ x px y py z pz, ts = [.Name x px, .Name y py, .Name z pz] ∧ env.kindOf x = some .local ∧ env.kindOf y = some .local ∧ env.kindOf z = some .local ∧ x ≠ y ∧ x ≠ z ∧ y ≠ z ∧ swappedStores [.Tuple ts k p] (.Tuple es k2 p2) env = pure (some [x, y, z]) := by
  rw [swapped_eq]
  by_cases c1 : (!(ts.length == 2 || ts.length == 3) || es.length != ts.length || env.blockKind != .function) = true
  · rw [if_pos c1]; exact .inl rfl
  rw [if_neg c1]
  by_cases c2 : swStar es = true
  · rw [if_pos c2]; exact .inl rfl
  rw [if_neg c2]
  by_cases c3 : ((swNames ts env).length != ts.length || (swNames ts env).eraseDups.length != (swNames ts env).length) = true
  · rw [if_pos c3]; exact .inl rfl
  rw [if_neg c3]
  by_cases c4 : es.all (foldedForSure 8) = true
  · rw [if_pos c4]; exact .inl rfl
  rw [if_neg c4]
  have c5 : ¬ es.all (constantsAlone 8) = true := fun q => by
    rw [q, Bool.or_eq_true] at gd
    exact gd.elim (fun z => by cases z) c4
  rw [if_neg c5]
  simp only [Bool.or_eq_true, Bool.not_eq_true', bne_iff_ne, ne_eq, not_or, Decidable.not_not] at c1 c3
  obtain ⟨⟨c1, _⟩, _⟩ := c1
  obtain ⟨n1, n2⟩ := c3
  have full := fm_full n1
  have len : ts.length = 2 ∨ ts.length = 3 := by
    simp only [Bool.or_eq_false_iff, beq_eq_false_iff_ne, ne_eq, not_and, Decidable.not_not] at c1
    omega
  rcases len with len | len
  · match ts, len with
    | [a, b], _ =>
      obtain ⟨x, hx⟩ := full a List.mem_cons_self
      obtain ⟨y, hy⟩ := full b (List.mem_cons_of_mem _ List.mem_cons_self)
      have e : swNames [a, b] env = [x, y] := by
        unfold swNames
        rw [List.filterMap_cons, hx, List.filterMap_cons, hy]
        rfl
      obtain ⟨px, rfl, kx⟩ := locNm_some hx
      obtain ⟨py, rfl, ky⟩ := locNm_some hy
      rw [e] at n2 ⊢
      exact .inr (.inl ⟨x, px, y, py, rfl, kx, ky, dups2 n2, rfl⟩)
  · match ts, len with
    | [a, b, c], _ =>
      obtain ⟨x, hx⟩ := full a List.mem_cons_self
      obtain ⟨y, hy⟩ := full b (List.mem_cons_of_mem _ List.mem_cons_self)
      obtain ⟨z, hz⟩ := full c (List.mem_cons_of_mem _ (List.mem_cons_of_mem _ List.mem_cons_self))
      have e : swNames [a, b, c] env = [x, y, z] := by
        unfold swNames
        rw [List.filterMap_cons, hx, List.filterMap_cons, hy, List.filterMap_cons, hz]
        rfl
      obtain ⟨px, rfl, kx⟩ := locNm_some hx
      obtain ⟨py, rfl, ky⟩ := locNm_some hy
      obtain ⟨pz, rfl, kz⟩ := locNm_some hz
      rw [e] at n2 ⊢
      obtain ⟨d1, d2, d3⟩ := dups3 n2
      exact .inr (.inr ⟨x, px, y, py, z, pz, rfl, kx, ky, kz, d1, d2, d3, rfl⟩)
section
variable {S : Sx} {W : WX} {X : Cx}
theorem tA.imp {m : M (List Rv)} {σ : St} {H : Hp} {Q Q' : List V → Hp → Prop} (h : tA S W m σ H Q) (i : ∀ vs H', Q vs H' → Q' vs H') : tA S W m σ H Q' := by
  obtain ⟨F, ρ, R, w⟩ := h
  exact ⟨F, ρ, R, w.imp fun rs F' ρ' H' _ g vs a b => i vs H' (g vs a b)⟩
theorem tA.len {f : Expr → M Rv} {es : List Expr} {σ : St} {H : Hp} {Q : List V → Hp → Prop} (h : tA S W (evArgs f es) σ H Q) : tA S W (evArgs f es) σ H fun vs H1 => vs.length = es.length ∧ Q vs H1 := by
  obtain ⟨F, ρ, R, w⟩ := h
  refine ⟨F, ρ, R, ?_⟩
  cases e : evArgs f es ρ with
  | bad => rw [e] at w; exact w
  | exc c x ρ' => rw [e] at w; exact w
  | ok rs ρ' =>
    rw [e] at w
    exact fun F' H' P vs a b => ⟨by rw [reprs_len a, evArgs_len e], w F' H' P vs a b⟩
theorem ix_inj {N : List Str} (hN : N.Nodup) {i j : Nat} {x : Str} (h1 : N[i]? = some x) (h2 : N[j]? = some x) : i = j := by
  obtain ⟨a1, b1⟩ := List.getElem?_eq_some_iff.mp h1
  exact (List.getElem?_inj a1 hN).mp (h1.trans h2.symm)
theorem ix_ne {N : List Str} {i j : Nat} {x y : Str} (h1 : N[i]? = some x) (h2 : N[j]? = some y) (h : x ≠ y) : i ≠ j := fun z => by
  subst z
  rw [h1] at h2
  exact h (Option.some.inj h2)
theorem ps_parE {L : Expr → List Nat} {g : Expr → Sl → M Unit} {f : Expr → M Rv} {ts es : List Expr} {k k2 : Nat} {p p2 pos : Pos} (hc : X.calm = true) (hN : X.N.Nodup) (h : ∀ e, PE X e (tE S W (f e))) (hg : ∀ t, PG X t (tG S W (L t) (g t))) (hnm : ∀ x p, Expr.Name x p ∈ ts → ∃ i, X.N[i]? = some x ∧ g (.Name x p) = storeAt i ∧ i ∈ L (.Name x p))
    (ns : noStar ts = true) (hl : ts.length = es.length) (hz : es.length ≤ 1000) (gd : (!es.all (constantsAlone 8) || es.all (foldedForSure 8)) = true) : PS X (.Assign [.Tuple ts k p] (.Tuple es k2 p2) pos) (tS S W (parM g f ts es)) := by
  have ha : PA X es (tA S W (evArgs f es)) := pa_ev fun e _ => h e
  rcases swap_cases (ts := ts) (es := es) (k := k) (k2 := k2) (p := p) (p2 := p2) (env := X.env) gd with hw | ⟨x, px, y, py, rfl, kx, ky, hxy, hw⟩ | ⟨x, px, y, py, z, pz, rfl, kx, ky, kz, hxy, hxz, hyz, hw⟩
  · exact PS.sub (ps_tupAsg hc ha (pgs_assigns ns fun t _ => hg t) ns hl (by rw [sizeLine_eq]; omega) hw fun σ H R => tA.len) fun D σ H w => par_run w
  · match es, hl, ha, hw with
    | [a, b], _, ha, hw =>
      obtain ⟨i, hi, ei, mi⟩ := hnm x px List.mem_cons_self
      obtain ⟨j, hj, ej, mj⟩ := hnm y py (List.mem_cons_of_mem _ List.mem_cons_self)
      refine PS.sub (ps_par hc hN hi hj (ix_ne hi hj hxy) kx ky ha hw) fun D σ H w => (par_run (L := [Expr.Name x px, Expr.Name y py].flatMap L) w).imp fun vs H1 q0 => ?_
      obtain ⟨v, r, rfl, q1⟩ := assigns_cons (L := L) q0
      rw [ei] at q1
      obtain ⟨u, r, rfl, q2⟩ := assigns_cons (name_run mi q1)
      rw [ej] at q2
      obtain ⟨rfl, q3⟩ := assigns_nil (name_run mj q2)
      exact ⟨v, u, rfl, q3⟩
  · match es, hl, ha, hw with
    | [a, b, c], _, ha, hw =>
      obtain ⟨i, hi, ei, mi⟩ := hnm x px List.mem_cons_self
      obtain ⟨j, hj, ej, mj⟩ := hnm y py (List.mem_cons_of_mem _ List.mem_cons_self)
      obtain ⟨l, hl, el, ml⟩ := hnm z pz (List.mem_cons_of_mem _ (List.mem_cons_of_mem _ List.mem_cons_self))
      refine PS.sub (ps_par3 hc hN hi hj hl (ix_ne hi hj hxy) (ix_ne hi hl hxz) (ix_ne hj hl hyz) kx ky kz ha hw) fun D σ H w => (par_run (L := [Expr.Name x px, Expr.Name y py, Expr.Name z pz].flatMap L) w).imp fun vs H1 q0 => ?_
      obtain ⟨v, r, rfl, q1⟩ := assigns_cons (L := L) q0
      rw [ei] at q1
      obtain ⟨u, r, rfl, q2⟩ := assigns_cons (name_run mi q1)
      rw [ej] at q2
      obtain ⟨t, r, rfl, q3⟩ := assigns_cons (name_run mj q2)
      rw [el] at q3
      obtain ⟨rfl, q4⟩ := assigns_nil (name_run ml q3)
      exact ⟨v, u, t, rfl, q4⟩
end
end Pyd
end

section
set_option Elab.async false
set_option linter.all false
set_option maxRecDepth 100000
set_option maxHeartbeats 4000000
/-! Pyd, part P: list comprehensions. -/
namespace Pyd
open PySem PySem.Spec L2
open PyProof.Rows hiding St
theorem wipeS_get {vs : List Nat} {ρ : List Sl} {j : Nat} : (wipeS vs ρ)[j]? = if j ∈ vs then (if j < ρ.length then some .emp else none) else ρ[j]? := by
  induction vs with
  | nil => simp [wipeS]
  | cons i vs ih =>
    have hlen : (wipeS vs ρ).length = ρ.length := by
      clear ih
      induction vs with
      | nil => rfl
      | cons i vs ih => show ((wipeS vs ρ).set i .emp).length = _; rw [List.length_set, ih]
    show ((wipeS vs ρ).set i .emp)[j]? = _
    by_cases h : i = j
    · subst h
      rw [if_pos List.mem_cons_self]
      by_cases hl : i < ρ.length
      · rw [if_pos hl, List.getElem?_set_self (by rw [hlen]; exact hl)]
      · rw [if_neg hl, List.getElem?_eq_none (by rw [List.length_set, hlen]; omega)]
    · rw [List.getElem?_set_ne h, ih]
      by_cases hm : j ∈ vs
      · rw [if_pos hm, if_pos (List.mem_cons_of_mem _ hm)]
      · rw [if_neg hm, if_neg (fun z => (List.mem_cons.mp z).elim (fun q => h q.symm) hm)]
theorem wipeS_len {vs : List Nat} {ρ : List Sl} : (wipeS vs ρ).length = ρ.length := by
  induction vs with
  | nil => rfl
  | cons i vs ih => show ((wipeS vs ρ).set i .emp).length = _; rw [List.length_set, ih]
theorem restS_len {vs : List Nat} {ρ0 ρ : List Sl} : (restS vs ρ0 ρ).length = ρ.length := by
  induction vs with
  | nil => rfl
  | cons i vs ih => show ((restS vs ρ0 ρ).set i _).length = _; rw [List.length_set, ih]
theorem restS_get {vs : List Nat} {ρ0 ρ : List Sl} {j : Nat} : (restS vs ρ0 ρ)[j]? = if j ∈ vs then (if j < ρ.length then some (ρ0.getD j .emp) else none) else ρ[j]? := by
  induction vs with
  | nil => simp [restS]
  | cons i vs ih =>
    show ((restS vs ρ0 ρ).set i (ρ0.getD i .emp))[j]? = _
    by_cases h : i = j
    · subst h
      rw [if_pos List.mem_cons_self]
      by_cases hl : i < ρ.length
      · rw [if_pos hl, List.getElem?_set_self (by rw [restS_len]; exact hl)]
      · rw [if_neg hl, List.getElem?_eq_none (by rw [List.length_set, restS_len]; omega)]
    · rw [List.getElem?_set_ne h, ih]
      by_cases hm : j ∈ vs
      · rw [if_pos hm, if_pos (List.mem_cons_of_mem _ hm)]
      · rw [if_neg hm, if_neg (fun z => (List.mem_cons.mp z).elim (fun q => h q.symm) hm)]
theorem wipe_get {vs : List Nat} {σ : St} {j : Nat} : (wipe σ vs)[j]? = if j ∈ vs then (if j < σ.length then some none else none) else σ[j]? := by
  induction vs with
  | nil => simp [wipe]
  | cons i vs ih =>
    show ((wipe σ vs).set i none)[j]? = _
    by_cases h : i = j
    · subst h
      rw [if_pos List.mem_cons_self]
      by_cases hl : i < σ.length
      · rw [if_pos hl, List.getElem?_set_self (by rw [wipe_length]; exact hl)]
      · rw [if_neg hl, List.getElem?_eq_none (by rw [List.length_set, wipe_length]; omega)]
    · rw [List.getElem?_set_ne h, ih]
      by_cases hm : j ∈ vs
      · rw [if_pos hm, if_pos (List.mem_cons_of_mem _ hm)]
      · rw [if_neg hm, if_neg (fun z => (List.mem_cons.mp z).elim (fun q => h q.symm) hm)]
theorem wipe_ag {σ σ2 : St} {L vs : List Nat} (h : Ag L (wipe σ vs) σ2) (hL : ∀ j ∈ L, j ∈ vs) : wipe σ2 vs = wipe σ vs := by
  have hl : σ2.length = σ.length := by rw [h.1, wipe_length]
  refine List.ext_getElem? fun j => ?_
  rw [wipe_get, wipe_get, hl]
  by_cases hm : j ∈ vs
  · rw [if_pos hm, if_pos hm]
  · rw [if_neg hm, if_neg hm, h.2 j (fun z => hm (hL j z)), wipe_get, if_neg hm]
section
variable {S : Sx} {W : WX} {X : Cx} {σ σ0 σ1 σ2 : St} {F F0 F1 : Fz} {ρ ρ0 ρ1 : List Sl} {H H0 H1 : Hp} {α β : Type} {vs : List Nat}
def PlainAt (vs : List Nat) (ρ : List Sl) : Prop := ∀ i ∈ vs, ρ[i]? = some .emp ∨ ∃ d, ρ[i]? = some (.val d)
theorem plainAt_of (h : (vs.all fun i => plainSl ρ[i]?) = true) : PlainAt vs ρ := fun i hi => by
  have q := List.all_eq_true.mp h i hi
  unfold plainSl at q
  split at q
  · rename_i e; exact .inl e
  · rename_i d e; exact .inr ⟨d, e⟩
  · cases q
/-- a turn begins: the block's own names are forgotten -/
theorem post_wipe (pl : PlainAt vs ρ1) (P : Post S F1 σ1 ρ1 H1 F σ2 ρ H) (hw : wipe σ2 vs = wipe σ vs) (hb : ∀ i, i ∉ vs → σ[i]? = σ2[i]?) : Post S F1 σ1 ρ1 H1 F (wipe σ vs) (wipeS vs ρ) H := by
  have R := P.rep
  have own : ∀ j, OwnAt (wipeS vs ρ) j → j ∉ vs ∧ OwnAt ρ j := fun j ⟨o, ho⟩ => by
    rw [wipeS_get] at ho
    by_cases hm : j ∈ vs
    · rw [if_pos hm] at ho
      by_cases hl : j < ρ.length
      · rw [if_pos hl] at ho; rcases ho with z | z <;> cases z
      · rw [if_neg hl] at ho; rcases ho with z | z <;> cases z
    · rw [if_neg hm] at ho
      exact ⟨hm, o, ho⟩
  have at_ : ∀ j, j ∉ vs → (wipe σ vs)[j]? = σ2[j]? := fun j hm => by rw [wipe_get, if_neg hm, hb j hm]
  have oaS : ∀ a, OA (wipe σ vs) (wipeS vs ρ) a → OA σ2 ρ a := fun a ⟨j, oj, ej⟩ => by
    obtain ⟨hm, o⟩ := own j oj
    rw [at_ j hm] at ej
    exact ⟨j, o, ej⟩
  refine ⟨P.step, ⟨by rw [← hw, wipe_length, wipeS_len]; exact R.len, fun i s hs => ?_, fun i j a oi oj ei ej => ?_, R.fz, R.tabs⟩, fun a z => P.oa a (oaS a z), fun i o hi => ?_⟩
  · rw [wipeS_get] at hs
    by_cases hm : i ∈ vs
    · rw [if_pos hm] at hs
      by_cases hl : i < ρ.length
      · rw [if_pos hl] at hs; cases hs; trivial
      · rw [if_neg hl] at hs; cases hs
    · rw [if_neg hm] at hs
      have q := R.all i s hs
      cases s with
      | emp => trivial
      | val d => obtain ⟨v, e, r⟩ := q; exact ⟨v, by rw [at_ i hm]; exact e, r⟩
      | own o => obtain ⟨v, e, r⟩ := q; exact ⟨v, by rw [at_ i hm]; exact e, r⟩
      | bor o => obtain ⟨v, e, r⟩ := q; exact ⟨v, by rw [at_ i hm]; exact e, r⟩
  · obtain ⟨mi, oi'⟩ := own i oi
    obtain ⟨mj, oj'⟩ := own j oj
    rw [at_ i mi] at ei
    rw [at_ j mj] at ej
    exact R.inj i j a oi' oj' ei ej
  · have hm : i ∉ vs := fun z => by rcases pl i z with e | ⟨d, e⟩ <;> (rw [hi] at e; cases e)
    obtain ⟨o', h1, h2⟩ := P.bor i o hi
    exact ⟨o', by rw [wipeS_get, if_neg hm]; exact h1, by rw [at_ i hm]; exact h2⟩
/-- behind the last turn: they are as before -/
theorem post_rest (pl : PlainAt vs ρ1) (R1 : SRep S F1 σ ρ1 H1) (P : Post S F1 σ ρ1 H1 F (wipe σ vs) (wipeS vs ρ) H) (kp : Kp F1 H1 F H) : Post S F1 σ ρ1 H1 F σ (restS vs ρ1 ρ) H := by
  have R := P.rep
  have own : ∀ j, OwnAt (restS vs ρ1 ρ) j → j ∉ vs ∧ OwnAt (wipeS vs ρ) j := fun j ⟨o, ho⟩ => by
    rw [restS_get] at ho
    by_cases hm : j ∈ vs
    · rw [if_pos hm] at ho
      by_cases hl : j < ρ.length
      · rw [if_pos hl] at ho
        rcases pl j hm with e | ⟨d, e⟩ <;> (rw [List.getD_eq_getElem?_getD, e] at ho; rcases ho with z | z <;> cases z)
      · rw [if_neg hl] at ho; rcases ho with z | z <;> cases z
    · rw [if_neg hm] at ho
      exact ⟨hm, o, by rw [wipeS_get, if_neg hm]; exact ho⟩
  have at_ : ∀ j, j ∉ vs → (wipe σ vs)[j]? = σ[j]? := fun j hm => by rw [wipe_get, if_neg hm]
  have oaS : ∀ a, OA σ (restS vs ρ1 ρ) a → OA (wipe σ vs) (wipeS vs ρ) a := fun a ⟨j, oj, ej⟩ => by
    obtain ⟨hm, o⟩ := own j oj
    exact ⟨j, o, by rw [at_ j hm]; exact ej⟩
  refine ⟨P.step, ⟨?_, fun i s hs => ?_, fun i j a oi oj ei ej => ?_, R.fz, R.tabs⟩, fun a z => P.oa a (oaS a z), fun i o hi => ?_⟩
  · have q := R.len
    rw [wipe_length, wipeS_len] at q
    rw [restS_len]
    exact q
  · rw [restS_get] at hs
    by_cases hm : i ∈ vs
    · rw [if_pos hm] at hs
      by_cases hl : i < ρ.length
      · rw [if_pos hl] at hs
        cases hs
        rcases pl i hm with e | ⟨d, e⟩
        · rw [List.getD_eq_getElem?_getD, e]; trivial
        · rw [List.getD_eq_getElem?_getD, e]
          obtain ⟨v, e1, r⟩ := R1.all i _ e
          exact ⟨v, e1, rep_mono kp d v r⟩
      · rw [if_neg hl] at hs; cases hs
    · rw [if_neg hm] at hs
      have q := R.all i s (by rw [wipeS_get, if_neg hm]; exact hs)
      cases s with
      | emp => trivial
      | val d => obtain ⟨v, e, r⟩ := q; exact ⟨v, by rw [← at_ i hm]; exact e, r⟩
      | own o => obtain ⟨v, e, r⟩ := q; exact ⟨v, by rw [← at_ i hm]; exact e, r⟩
      | bor o => obtain ⟨v, e, r⟩ := q; exact ⟨v, by rw [← at_ i hm]; exact e, r⟩
  · obtain ⟨mi, oi'⟩ := own i oi
    obtain ⟨mj, oj'⟩ := own j oj
    exact R.inj i j a oi' oj' (by rw [at_ i mi]; exact ei) (by rw [at_ j mj]; exact ej)
  · have hm : i ∉ vs := fun z => by rcases pl i z with e | ⟨d, e⟩ <;> (rw [hi] at e; cases e)
    obtain ⟨o', h1, h2⟩ := P.bor i o hi
    rw [wipeS_get, if_neg hm] at h1
    exact ⟨o', by rw [restS_get, if_neg hm]; exact h1, rfl⟩
/-- a new list that nobody holds is changed -/
theorem post_grow {D : Addr} {acc us : List V} (P : Post S F1 σ1 ρ1 H1 F σ ρ H) (n : H1 D = none) (nf : ¬ F D) (no : ¬ OA σ ρ D) (e : H D = some (.lst acc)) : Post S F1 σ1 ρ1 H1 F σ ρ (upd H D (.lst us)) ∧ Kp F H F (upd H D (.lst us)) := by
  have R := P.rep
  have ne : ∀ b o, H b = some o → (∀ xs, o ≠ .lst xs) → b ≠ D := fun b o eb h z => by
    rw [z, e] at eb
    cases eb
    exact h _ rfl
  have kp : Kp F H F (upd H D (.lst us)) := ⟨fun b ob u eb => by rw [upd_ne (ne b _ eb fun xs z => nomatch z)]; exact eb, fun _ f => f, fun b o f eb => by rw [upd_ne (fun (z : b = D) => nf (z ▸ f))]; exact eb⟩
  refine ⟨⟨⟨fun a o ea nt na => ?_, P.step.fs, P.step.fn, fun a ha => P.step.ex a (ha.upd e)⟩, ⟨R.len, fun i s hs => slot_mono kp hs (R.all i s hs) (fun a oa => (R.oa oa).1) (fun a u oa ea => by rw [upd_ne (fun (z : a = D) => no (z ▸ oa))]; exact ea), R.inj, fun a f => ?_, tabs_keep (fun b o eb h => by rw [upd_ne (ne b o eb h)]; exact eb) R.tabs⟩, P.oa, P.bor⟩, kp⟩
  · rw [upd_ne (fun (z : a = D) => by rw [z, n] at ea; cases ea)]
    exact P.step.keep a o ea nt na
  · have q : a ≠ D := fun (z : a = D) => nf (z ▸ f)
    rw [upd_ne q]
    exact R.fz a f
theorem gb_f {A B : Hp → Prop} (h : B H) : GB (fun b H => if b = true then A H else B H) false F ρ H := by
  show if false = true then A H else B H
  rw [if_neg Bool.false_ne_true]
  exact h
theorem gb_t {A B : Hp → Prop} (h : A H) : GB (fun b H => if b = true then A H else B H) true F ρ H := by
  show if true = true then A H else B H
  rw [if_pos rfl]
  exact h
def W0 : WX := fun _ _ _ _ => False
theorem lc_run {L : List Nat} {mi : M (List D)} {gt : Sl → M Unit} {mt : M Bool} {mf : M Rv} {Q : VK} (hL : ∀ j ∈ L, j ∈ vs) (h : tE S W (M.bnd mi fun ds => compM vs (loopC vs gt mt mf ds)) σ H Q) : tLc (iD S W mi) (tG S W0 L gt) (tT S W0 mt) (tE S W0 mf) vs σ H Q := by
  obtain ⟨F, ρ, R, w⟩ := h
  refine ⟨F, ρ, R, w.bnd0.imp fun ds F1 ρ1 H1 P1 w J wk D hD => ?_⟩
  have R1 := P1.rep
  unfold compM at w
  cases hp : vs.all fun i => plainSl ρ1[i]? with
  | false => rw [hp] at w; exact w.elim
  | true =>
  rw [hp] at w
  have pl := plainAt_of hp
  cases hm : loopC vs gt mt mf ds ρ1 with
  | bad => rw [hm] at w; exact w.elim
  | exc c x ρ' => rw [hm] at w; exact w.elim
  | ok xs ρe =>
  rw [hm] at w
  simp only at w
  cases hz : okLen xs.length with
  | false => rw [hz] at w; exact w.elim
  | true =>
  rw [hz] at w
  have hz := okLen_le hz
  have w : Wg S W σ F ρ H (.ok (.own (.lst xs)) (restS vs ρ1 ρe)) (GQ S σ H Q) := w
  have PD := post_new (o := .lst []) R1 hD
  have P0 : Post S F1 σ ρ1 H1 F1 (wipe σ vs) (wipeS vs ρ1) (upd H1 D (.lst [])) := post_wipe pl PD rfl fun _ _ => rfl
  have nF1 : ¬ F1 D := R1.none_F hD
  have nO1 : ∀ {σ' : St} {ρ' : List Sl}, (∀ a, OA σ' ρ' a → OA σ ρ1 a ∨ H1 a = none) → True := fun _ => trivial
  refine ⟨fun i m H' => i ≤ ds.length ∧ m = ds.length - i ∧ ∃ Fi ρi acc accD xsi, Post S F1 σ ρ1 H1 Fi (wipe σ vs) (wipeS vs ρi) H' ∧ Kp F1 H1 Fi H' ∧ H' D = some (.lst acc) ∧ ¬ Fi D ∧ ¬ OA (wipe σ vs) (wipeS vs ρi) D ∧ reps S Fi H' accD acc ∧
    loopC vs gt mt mf (ds.drop i) ρi = .ok xsi ρe ∧ xs = accD ++ xsi, ⟨ds.length, Nat.zero_le _, rfl, F1, ρ1, [], [], xs, P0, PD.kp R1, upd_same, nF1, ?_, rfl, hm, rfl⟩, ?_⟩
  · intro z
    obtain ⟨j, ⟨o, ho⟩, ej⟩ := z
    rw [wipeS_get] at ho
    by_cases hj : j ∈ vs
    · rw [if_pos hj] at ho
      by_cases hl : j < ρ1.length
      · rw [if_pos hl] at ho; rcases ho with z | z <;> cases z
      · rw [if_neg hl] at ho; rcases ho with z | z <;> cases z
    · rw [if_neg hj] at ho
      rw [wipe_get, if_neg hj] at ej
      exact R1.none_O hD ⟨j, ⟨o, ho⟩, ej⟩
  rintro i m H' ⟨hi, rfl, Fi, ρi, acc, accD, xsi, P, kp, eD, nf, no, ra, hl, ex⟩
  obtain ⟨go, stop, yld⟩ := wk Fi H' kp
  by_cases hlt : i < ds.length
  · rw [List.drop_eq_getElem_cons hlt] at hl
    obtain ⟨_, _, e1, hl⟩ := bnd_eq_ok (show M.bnd (wipeM vs) _ ρi = _ from hl)
    cases e1
    obtain ⟨_, ρa, hg, hl⟩ := bnd_eq_ok hl
    obtain ⟨c, ρb, ht, hl⟩ := bnd_eq_ok hl
    refine .inr ⟨go i hlt, fun H2 => ∃ Fi ρi acc accD xsi, Post S F1 σ ρ1 H1 Fi (wipe σ vs) (wipeS vs ρi) H2 ∧ Kp F1 H1 Fi H2 ∧ H2 D = some (.lst acc) ∧ ¬ Fi D ∧ ¬ OA (wipe σ vs) (wipeS vs ρi) D ∧ reps S Fi H2 accD acc ∧
      loopC vs gt mt mf (ds.drop (i + 1)) ρi = .ok xsi ρe ∧ xs = accD ++ xsi, fun H2 n => ⟨ds.length - (i + 1), by omega, hlt, rfl, n⟩, fun x H'' y => ?_⟩
    have got : Post S F1 σ ρ1 H1 Fi (wipe σ vs) (wipeS vs ρi) H'' ∧ Kp Fi H' Fi H'' ∧ H'' D = some (.lst acc) ∧ rep S Fi H'' ds[i] x := by
      rcases yld i ds[i] x H'' (List.getElem?_eq_getElem hlt) y with ⟨rfl, rd⟩ | ⟨p, ob, vs', es, ed, rfl, n, hd, rfl, rr⟩
      · exact ⟨P, Kp.refl _ _, eD, rd⟩
      · refine ⟨P.trans (post_new P.rep n), kp_new n, by rw [upd_ne (ne_of_none eD n)]; exact eD, ?_⟩
        rw [ed]
        exact rep_tupNew n rr hd
    obtain ⟨P', k1, eD1, rd⟩ := got
    refine ⟨σ, F1, ρ1, H1, Fi, wipeS vs ρi, .val ds[i], P', rd, trivial, ?_⟩
    rw [hg]
    intro σ2 F2 H2 _ P2 sv ag
    have hw := wipe_ag ag hL
    obtain ⟨nf2, no2, eD2⟩ := sv.2 D acc nf no (fun z => z.1.elim) eD1
    have hb : ∀ i, i ∉ vs → σ[i]? = σ2[i]? := fun j hj => by
      rw [ag.2 j fun z => hj (hL j z), wipe_get, if_neg hj]
    have noW : ∀ {ρ' : List Sl}, ¬ OA σ2 ρ' D → ¬ OA (wipe σ vs) (wipeS vs ρ') D := fun {ρ'} h ⟨j, ⟨o, ho⟩, ej⟩ => by
      rw [wipeS_get] at ho
      by_cases hj : j ∈ vs
      · rw [if_pos hj] at ho
        by_cases hl : j < ρ'.length
        · rw [if_pos hl] at ho; rcases ho with z | z <;> cases z
        · rw [if_neg hl] at ho; rcases ho with z | z <;> cases z
      · rw [if_neg hj] at ho
        rw [wipe_get, if_neg hj, hb j hj] at ej
        exact h ⟨j, ⟨o, ho⟩, ej⟩
    refine ⟨hw, F2, ρa, P2.rep, ?_⟩
    rw [ht]
    intro F3 H3 P3
    obtain ⟨nf3, no3, eD3⟩ := (Sv.post (ex := fun _ => False) P3 P2.rep).2 D acc nf2 no2 (fun z => z) eD2
    have k3 : Kp Fi H' F3 H3 := (k1.trans sv.1).trans (P3.kp P2.rep)
    have P03 := P2.trans P3
    cases c with
    | false =>
      refine gb_f ?_
      exact ⟨F3, ρb, acc, accD, xsi, post_wipe pl P03 hw hb, kp.trans k3, eD3, nf3, noW no3, reps_mono k3 _ _ ra, hl, ex⟩
    | true =>
      refine gb_t ?_
      obtain ⟨r, ρc, hf, hl⟩ := bnd_eq_ok hl
      obtain ⟨x', ρd, hfz, hl⟩ := bnd_eq_ok hl
      obtain ⟨xs', ρ4, hl, e4⟩ := bnd_eq_ok hl
      cases e4
      refine ⟨F3, ρb, P3.rep, ?_⟩
      rw [hf]
      intro F4 H4 P4 v rv nv
      obtain ⟨nf4, no4, eD4⟩ := (Sv.post (ex := fun _ => False) P4 P3.rep).2 D acc nf3 no3 (fun z => z) eD3
      obtain ⟨F5, P5, q5, k5, f5, o5⟩ := frz_post P4 rv nv hfz
      have nf5 : ¬ F5 D := fun z => (f5 D z).elim nf4 fun ⟨ev, z⟩ => z.elim (fun io => by
        cases r with
        | val _ => exact io
        | var _ => exact io
        | own o =>
          exact (nv D ev).lst eD3) no4
      have no5 : ¬ OA σ2 ρd D := fun z => no4 (o5 D z)
      have P05 := P03.trans P5
      have k45 : Kp Fi H' F5 H4 := k3.trans (P5.kp P3.rep)
      obtain ⟨P6, k6⟩ := post_grow (us := acc ++ [v]) P05 hD nf5 no5 eD4
      have hlen : acc.length < sizeLine := by
        have e := congrArg List.length ex
        rw [List.length_append, reps_length ra, List.length_cons] at e
        omega
      refine ⟨acc, eD4, hlen, F5, ρd, acc ++ [v], accD ++ [x'], xs', post_wipe pl P6 hw hb, (kp.trans k45).trans k6, upd_same, nf5, noW no5, reps_append (reps_mono k6 _ _ (reps_mono k45 _ _ ra)) (reps_one (rep_mono k6 _ _ q5)), hl, ?_⟩
      rw [ex, List.append_assoc]
      rfl
  · have e : i = ds.length := by omega
    subst e
    rw [List.drop_length] at hl
    cases hl
    rw [List.append_nil] at ex
    subst ex
    refine .inl ⟨stop, ?_⟩
    have PR := post_rest pl R1 P kp
    refine w Fi H' (P1.trans PR) (.ref D) ⟨D, rfl, nf, fun z => ?_, acc, eD, ra⟩ (fun a e => by cases e; exact P1.step.none (Nn.of hD))
    exact (PR.oa D z).elim (R1.none_O hD) fun _ => no (by
      obtain ⟨j, ⟨o, ho⟩, ej⟩ := z
      rw [restS_get] at ho
      by_cases hj : j ∈ vs
      · rw [if_pos hj] at ho
        by_cases hl : j < ρe.length
        · rw [if_pos hl] at ho
          rcases pl j hj with e | ⟨d, e⟩ <;> (rw [List.getD_eq_getElem?_getD, e] at ho; rcases ho with z | z <;> cases z)
        · rw [if_neg hl] at ho; rcases ho with z | z <;> cases z
      · rw [if_neg hj] at ho
        exact ⟨j, ⟨o, by rw [wipeS_get, if_neg hj]; exact ho⟩, by rw [wipe_get, if_neg hj]; exact ej⟩)
end
end Pyd
end

section
set_option Elab.async false
set_option linter.all false
set_option maxRecDepth 100000
set_option maxHeartbeats 4000000
/-! Pyd, part Q: contexts; the interpreter is sound for expressions. -/
namespace Pyd
open PySem PySem.Spec L2
open PyProof.Rows hiding St

/-- the scope that runs, told by the written one -/
def ScR (X : Cx) (sc : Scope) : Prop := ∀ x k, sc.names.lookup x = some k →
  (k = .local → X.env.scope.names.lookup x = some .local) ∧ (k = .cell → X.env.scope.names.lookup x = some .cell ∧ X.fn x = true) ∧
    (k = .free → X.env.scope.names.lookup x = some .cell ∨ X.env.scope.names.lookup x = some .free) ∧ (k = .globalImplicit → X.env.scope.names.lookup x = some .globalImplicit)
/-- what isinstance(e, x) is of the error that was caught -/
def FlagG (S : Sx) (X : Cx) (x : Str) (b : Bool) : Prop := ∃ D, CallR X (.builtin "isinstance") (rIsE X.K D (S.fa exnK)) ∧ ((∃ Cc, X.mg x = some (.ref Cc) ∧ PySem.W.kitOne X.K (.ref D) (.ref Cc) = some b) ∨ ∃ t, X.mg x = none ∧ bootBuiltins x = some (.type t) ∧ PySem.W.kitOne X.K (.ref D) (.type t) = some b)
def GbAt (S : Sx) (C : Cfg) (X : Cx) (n : Nat) (x : Str) : Gb → Prop
  | .fn k => FnAt S C X n x k
  | .ty t => X.mg x = none ∧ x = Str.ofString t ∧ bootBuiltins x = some (.type t)
  | .bi t => X.mg x = none ∧ x = Str.ofString t ∧ bootBuiltins x = some (.builtin t)
  | .const d => ∃ u v, X.mg x = some u ∧ RelV v u ∧ ∀ F H, rep S F H d v
  | .word _ => True
  | .exc _ => True
  | .flag b => C.su = true ∧ FlagG S X x b
structure Ok0 (S : Sx) (C : Cfg) (X : Cx) (W : WX) (sc : Scope) (n : Nat) : Prop where
  k : X.K = S.K
  N : X.N = C.N
  nd : C.N.Nodup
  calm : C.su = false → X.calm = true
  tk : Takes X W
  room : C.su = false → Room n X.A
  line : X.A.units + 64 < cLine
  sr : ScR X sc
  gb : ∀ x g, C.glob x = some g → GbAt S C X n x g
/-- a helper that is handed a lambda -/
def LamF (S : Sx) (C : Cfg) (X : Cx) (W : WX) (sc : Scope) (n : Nat) : Prop := ∀ (x : Str) (k : Nat) (ps : Arguments) (body : Expr) (scope : Scope) (lp p pos : Pos) (m : M Rv), globOf C sc x = some (.word k) → lamOk C.N ps sc scope = true →
  (∀ X' W', Ok0 S C X' W' scope n → PE X' body (tE S W' m)) → PE X (.Call (.Name x p) [.Lambda ps body scope lp] [] pos) (tE S W (lamM (C.words k) m))
structure Ok (S : Sx) (C : Cfg) (X : Cx) (W : WX) (sc : Scope) (n : Nat) : Prop where
  o : Ok0 S C X W sc n
  lam : sc = C.dsc → C.lam = true → LamF S C X W sc n
structure Snd (S : Sx) (C : Cfg) (n : Nat) (v : Ev) : Prop where
  E : ∀ X W sc, Ok S C X W sc n → ∀ e, PE X e (tE S W (v.E sc e))
  T : ∀ X W sc, Ok S C X W sc n → ∀ e, PT X e (tT S W (v.T sc e))
theorem find_at {N : List Str} {x : Str} {i : Nat} (h : N.findIdx? (· == x) = some i) : N[i]? = some x := by
  obtain ⟨hl, hp, _⟩ := List.findIdx?_eq_some_iff_getElem.mp h
  rw [List.getElem?_eq_getElem hl]
  have e : N[i] = x := by simpa using hp
  rw [e]
section
variable {S : Sx} {C : Cfg} {X : Cx} {W : WX} {sc : Scope} {n : Nat}
theorem slot_at (o : Ok0 S C X W sc n) {x : Str} {i : Nat} (h : slotOf C.N sc x = some i) : X.N[i]? = some x ∧ Vis X.env.scope x ∧ (x == ("__debug__" : Str)) = false ∧ (x == ("__classdict__" : Str)) = false := by
  have go : ∀ k, sc.names.lookup x = some k → Vis X.env.scope x → (match x == ("__debug__" : Str) || x == ("__classdict__" : Str) with
      | true => none
      | false => C.N.findIdx? (· == x)) = some i → X.N[i]? = some x ∧ Vis X.env.scope x ∧ (x == ("__debug__" : Str)) = false ∧ (x == ("__classdict__" : Str)) = false := fun k _ v h => by
    split at h
    · cases h
    · rename_i hb
      rw [Bool.or_eq_false_iff] at hb
      exact ⟨by rw [o.N]; exact find_at h, v, hb.1, hb.2⟩
  unfold slotOf at h
  split at h
  · rename_i e; exact go _ e (.inl ((o.sr x _ e).1 rfl)) h
  · rename_i e; exact go _ e (.inr (.inl ((o.sr x _ e).2.1 rfl).1)) h
  · rename_i e; exact go _ e (.inr ((o.sr x _ e).2.2.1 rfl)) h
  · cases h
theorem loc_at (o : Ok0 S C X W sc n) {x : Str} {i : Nat} (h : locOf C.N sc x = some i) : X.N[i]? = some x ∧ Loc X.env.scope x ∧ (X.fn x = true ∨ X.env.scope.names.lookup x = some .local) := by
  unfold locOf at h
  split at h
  · rename_i e
    have q := (o.sr x _ e).1 rfl
    exact ⟨by rw [o.N]; exact find_at h, .inl q, .inr q⟩
  · rename_i e
    have q := (o.sr x _ e).2.1 rfl
    exact ⟨by rw [o.N]; exact find_at h, .inr q.1, .inl q.2⟩
  · cases h
theorem glob_at (o : Ok0 S C X W sc n) {x : Str} {g : Gb} (h : globOf C sc x = some g) : Gl X x ∧ GbAt S C X n x g ∧ (x == ("__debug__" : Str)) = false ∧ x ≠ "__name__" := by
  unfold globOf at h
  split at h
  · rename_i e
    split at h
    · cases h
    · rename_i hb
      rw [Bool.or_eq_false_iff] at hb
      exact ⟨(o.sr x _ e).2.2.2 rfl, o.gb x g h, hb.1, by simpa using hb.2⟩
  · cases h
theorem ty_at (o : Ok0 S C X W sc n) {x : Str} {t : String} (h : globOf C sc x = some (.ty t)) : TyAt X x t := by
  obtain ⟨g, ⟨m, e, b⟩, d, nn⟩ := glob_at o h
  exact ⟨g, m, e, b, d, nn⟩
theorem line_of (o : Ok0 S C X W sc n) : X.A.units + 64 < cLine := by
  exact o.line
/-! targets -/
def tgL (N : List Str) (sc : Scope) : Nat → Expr → List Nat
  | 0, _ => []
  | n + 1, .Name x _ => (locOf N sc x).toList
  | n + 1, .Tuple ts _ _ => ts.flatMap (tgL N sc n)
  | _, _ => []
theorem pg_tgE (o : Ok0 S C X W sc n) {f : Expr → M Rv} (h : ∀ e, PE X e (tE S W (f e))) : ∀ (d : Nat) (t : Expr), PG X t (tG S W (tgL C.N sc d t) (tgE C sc f d t))
  | 0, t => pg_no fun s ρ => rfl
  | d + 1, t => by
    cases t <;> first | exact pg_no fun s ρ => rfl | skip
    · rename_i v i p
      cases v <;> first | exact pg_no fun s ρ => rfl | skip
      rename_i x px
      show PG X _ (tG S W [] fun s => M.guard (noSlice i) (match slotOf C.N sc x with
        | some j => match s with
          | .val d => ownThen j (M.bnd (f i) fun r => match r with
            | .val (.int k) => putVar j (setD k d)
            | _ => M.bad)
          | _ => M.bad
        | none => M.bad))
      cases hn : noSlice i with
      | false => exact pg_no fun s ρ => rfl
      | true =>
        cases hs : slotOf C.N sc x with
        | none => exact pg_no fun s ρ => rfl
        | some j =>
          obtain ⟨a, b, c, e⟩ := slot_at o hs
          exact pg_subD (f := f) a b c e hn (h i)
    · rename_i x p
      show PG X _ (tG S W (locOf C.N sc x).toList fun s => match locOf C.N sc x with
        | some i => storeAt i s
        | none => M.bad)
      cases hl : locOf C.N sc x with
      | none => exact pg_no fun s ρ => rfl
      | some i =>
        obtain ⟨a, b, c⟩ := loc_at o hl
        exact pg_nameD (by rw [o.N]; exact o.nd) a b c
    · rename_i ts k p
      cases hsu : C.su with
      | true =>
        exact pg_no fun s ρ => by
          show M.guard (decide (C.su = false)) _ ρ = _
          rw [hsu]; rfl
      | false =>
        have e : tgE C sc f (d + 1) (.Tuple ts k p) = fun s => match s with
            | .val d' => M.bnd (M.opt (seqD d')) fun ds => M.guard (noStar ts && decide (ds.length = ts.length)) (assigns (tgE C sc f d) ts (ds.map Sl.val))
            | _ => M.bad := by
          funext s
          show M.guard (decide (C.su = false)) _ = _
          rw [hsu]; rfl
        rw [e]
        exact pg_tupD (L := tgL C.N sc d) (g := tgE C sc f d) o.k (o.calm hsu) fun _ t _ => pg_tgE o h d t
theorem own_mem {N : List Str} {scope : Scope} {x : Str} {i : Nat} (h : locOf N scope x = some i) : i ∈ (ownOf N scope).map (·.2) := by
  have go : ∀ {names : List (Str × NameKind)} {k : NameKind}, names.lookup x = some k → (x, k) ∈ names := fun {names k} h => by
    induction names with
    | nil => cases h
    | cons p r ih =>
      obtain ⟨y, k'⟩ := p
      rw [List.lookup_cons] at h
      split at h
      · rename_i hb
        cases h
        have e : x = y := by simpa using hb
        subst e
        exact List.mem_cons_self
      · exact List.mem_cons_of_mem _ (ih h)
  have key : ∀ k, (k = .local ∨ k = .cell) → scope.names.lookup x = some k → N.findIdx? (· == x) = some i → i ∈ (ownOf N scope).map (·.2) := fun k hk e h => by
    refine List.mem_map.mpr ⟨(x, i), List.mem_filterMap.mpr ⟨(x, k), go e, ?_⟩, rfl⟩
    rcases hk with rfl | rfl <;> (show (N.findIdx? (· == x)).map _ = _; rw [h]; rfl)
  unfold locOf at h
  split at h
  · rename_i e; exact key _ (.inl rfl) e h
  · rename_i e; exact key _ (.inr rfl) e h
  · cases h
theorem tgL_own {N : List Str} {scope : Scope} : ∀ (d : Nat) (t : Expr), ∀ j ∈ tgL N scope d t, j ∈ (ownOf N scope).map (·.2)
  | 0, t, j, h => by cases h
  | d + 1, t, j, h => by
    cases t <;> first | (cases h; done) | skip
    · rename_i x p
      have h : j ∈ (locOf N scope x).toList := h
      rw [Option.mem_toList] at h
      exact own_mem h
    · rename_i ts k p
      have h : j ∈ ts.flatMap (tgL N scope d) := h
      obtain ⟨t, _, ht⟩ := List.mem_flatMap.mp h
      exact tgL_own d t j ht
/-! a comprehension's block -/
theorem relS_free {sc : Scope} : ∀ {names : List (Str × NameKind)} {x : Str}, names.lookup x = some .free →
    (names.map fun (n, k) => if (k == NameKind.free && sc.kind == .function && sc.names.lookup n == some .cell) then (n, NameKind.cell) else (n, k)).lookup x = some .cell ∨
      (names.map fun (n, k) => if (k == NameKind.free && sc.kind == .function && sc.names.lookup n == some .cell) then (n, NameKind.cell) else (n, k)).lookup x = some .free
  | [], _, h => by cases h
  | (n, k₀) :: r, x, h => by
    have ih := @relS_free sc r x
    rw [List.lookup_cons] at h
    show List.lookup x ((if (k₀ == NameKind.free && sc.kind == .function && sc.names.lookup n == some .cell) = true then (n, NameKind.cell) else (n, k₀)) :: (r.map _)) = some .cell ∨ List.lookup x ((if (k₀ == NameKind.free && sc.kind == .function && sc.names.lookup n == some .cell) = true then (n, NameKind.cell) else (n, k₀)) :: (r.map _)) = some .free
    by_cases hc : (k₀ == NameKind.free && sc.kind == .function && sc.names.lookup n == some .cell) = true
    · rw [if_pos hc, List.lookup_cons]
      cases hx : x == n with
      | true => exact .inl rfl
      | false => rw [hx] at h; exact ih h
    · rw [if_neg hc, List.lookup_cons]
      cases hx : x == n with
      | true => rw [hx] at h; cases h; exact .inr rfl
      | false => rw [hx] at h; exact ih h
theorem gb_move {X' : Cx} {x : Str} {g : Gb} (hs : C.su = false) (e1 : X'.prog = X.prog) (e2 : X'.w = X.w) (e3 : X'.K = X.K) (e4 : X'.mg = X.mg) (e5 : X'.base = X.base) (h : GbAt S C X n x g) : GbAt S C X' n x g := by
  cases g with
  | fn k =>
    obtain ⟨a, b, c⟩ := (show FnAt S C X n x k from h)
    exact (show FnAt S C X' n x k from ⟨by rw [e4]; exact a, by rw [e3]; exact b, by rw [e1, e2, e3, e4, e5]; exact c⟩)
  | ty t => exact ⟨by rw [e4]; exact h.1, h.2⟩
  | bi t => exact ⟨by rw [e4]; exact h.1, h.2⟩
  | const d => obtain ⟨u, v, a, b⟩ := h; exact ⟨u, v, by rw [e4]; exact a, b⟩
  | word _ => trivial
  | exc _ => trivial
  | flag b => exact absurd (hs.symm.trans (show C.su = true ∧ _ from h).1) (by decide)
theorem blk_ok (hs : C.su = false) (o : Ok0 S C X W sc n) {scope : Scope} {s : Shared} {H : Hp} {Ca : Addr} {cl : List (Str × Addr)} {fp : List Addr} : Ok0 S C (X.blk s H scope (compEnvC scope cl Ca X.env) fp) W0 scope n where
  k := o.k
  N := o.N
  nd := o.nd
  calm := o.calm
  tk := LamX.takes0
  room := o.room
  line := o.line
  sr := fun x k h => by
    refine ⟨fun e => ?_, fun e => ?_, fun e => ?_, fun e => ?_⟩ <;> subst e
    · exact lookup_relS_keep (sc := X.env.scope) (by simp) h
    · refine ⟨lookup_relS_keep (sc := X.env.scope) (by simp) h, ?_⟩
      show (scope.names.lookup x == some .cell) = true
      rw [h]
      rfl
    · exact relS_free (sc := X.env.scope) h
    · exact lookup_relS_keep (sc := X.env.scope) (by simp) h
  gb := fun x g h => gb_move hs (X := X) (X' := X.blk s H scope (compEnvC scope cl Ca X.env) fp) rfl rfl rfl rfl rfl (o.gb x g h)
theorem blkOk_at (o : Ok0 S C X W sc n) {scope : Scope} {own : List (Str × Nat)} (h : blkC C.N sc scope own = true) : BlkOk X.N X.env.scope scope own := by
  obtain ⟨a, b, c, d, e⟩ := blkOk_by h
  rw [o.N]
  exact ⟨a, b, c, fun y hy hf => (d y hy hf).elim (fun z => .inl ((o.sr _ _ z).2.1 rfl).1) fun z => (o.sr _ _ z).2.2.1 rfl, e⟩
theorem pts_comp {v : Expr → M Bool} {ifs : List Expr} (h : ∀ e, PT X e (tT S W (v e))) : PTs X ifs (tT S W (compT v ifs)) := by
  cases ifs with
  | nil => exact ⟨fun pins s σ H Q I ⟨F, ρ, R, w⟩ => pts_nil.run pins s σ H Q I (Wg.now R w)⟩
  | cons c r =>
    cases r with
    | nil => exact pts_one (h c)
    | cons _ _ => exact ⟨fun pins s σ H Q I ⟨F, ρ, R, w⟩ => w.elim⟩
end
/-- what a comprehension asks of its parts -/
theorem lc_parts {S : Sx} {C : Cfg} {X : Cx} {W : WX} {sc : Scope} {n : Nat} {v : Ev} (V : Snd S C n v) (o : Ok0 S C X W sc n) {elt tg : Expr} {ifs : List Expr} {scope : Scope} (hd : scope ≠ C.dsc) (hs : C.su = false) (s : Shared) (H : Hp) (Ca : Addr) (cl : List (Str × Addr)) (fp : List Addr) :
    PG (X.blk s H scope (compEnvC scope cl Ca X.env) fp) tg (tG S W0 (tgL C.N scope 4 tg) (tgE C scope (v.E scope) 4 tg)) ∧ PTs (X.blk s H scope (compEnvC scope cl Ca X.env) fp) ifs (tT S W0 (compT (v.T scope) ifs)) ∧ PE (X.blk s H scope (compEnvC scope cl Ca X.env) fp) elt (tE S W0 (v.E scope elt)) := by
  have ob : Ok S C (X.blk s H scope (compEnvC scope cl Ca X.env) fp) W0 scope n := ⟨blk_ok hs o, fun e => absurd e hd⟩
  exact ⟨pg_tgE ob.o (V.E _ _ _ ob) 4 tg, pts_comp (V.T _ _ _ ob), V.E _ _ _ ob elt⟩
theorem pe_comp {S : Sx} {C : Cfg} {X : Cx} {W : WX} {sc : Scope} {n : Nat} {v : Ev} (V : Snd S C n v) (o : Ok S C X W sc n) {elt : Expr} {gs : List Comprehension} {scope : Scope} {pos : Pos} : PE X (.ListComp elt gs scope pos) (tE S W (evComp C v sc elt gs scope)) := by
  unfold evComp
  split
  · rename_i tg it ifs a
    refine pe_guard fun g => ?_
    simp only [Bool.and_eq_true, decide_eq_true_eq] at g
    obtain ⟨rfl, gb, hd, hsu⟩ := g
    by_cases hb : ∃ ρ, evIter C sc (v.E sc) tg it ρ ≠ .bad
    · exact PE.sub (pe_lc (o.o.calm hsu) (by rw [o.o.N]; exact o.o.nd) (pi_evIter o.o.k (V.E _ _ _ o) fun x t => ty_at o.o) (blkOk_at o.o gb) (fun s H Ca cl fp => (lc_parts (elt := elt) (ifs := ifs) V o.o hd hsu s H Ca cl fp).1) (fun s H Ca cl fp => (lc_parts (elt := elt) (tg := tg) V o.o hd hsu s H Ca cl fp).2.1) (fun s H Ca cl fp => (lc_parts (ifs := ifs) (tg := tg) V o.o hd hsu s H Ca cl fp).2.2)
        (evIter_set hb)) fun σ H Q w => lc_run (tgL_own 4 tg) w
    · refine pe_no fun ρ => ?_
      have e : evIter C sc (v.E sc) tg it ρ = .bad := Classical.byContradiction fun z => hb ⟨ρ, z⟩
      unfold M.bnd
      rw [e]
  · exact pe_no fun ρ => rfl
end Pyd
end

section
set_option Elab.async false
set_option linter.all false
set_option maxRecDepth 100000
set_option maxHeartbeats 4000000
/-! Pyd, part R: calls; the step of expressions. -/
namespace Pyd
open PySem PySem.Spec L2
open PyProof.Rows hiding St
section
variable {S : Sx} {W : WX} {X : Cx}
def tRgM (S : Sx) (W : WX) (m : M (List D)) : St → Hp → (Int → Int → Hp → Prop) → Prop := fun σ H Q => ∃ F ρ, SRep S F σ ρ H ∧ Wg S W σ F ρ H (m ρ) (fun ds _ _ H' => ∀ a b, ds = rgD a b → okRg a b = true → Q a b H')
theorem PRg.sub {e : Expr} {t t' : St → Hp → (Int → Int → Hp → Prop) → Prop} (h : PRg X e t) (i : ∀ σ H Q, t' σ H Q → t σ H Q) : PRg X e t' := fun pins s σ H Q I w => h pins s σ H Q I (i σ H Q w)
theorem rg_reps {F : Fz} {H : Hp} (a b : Int) : reps S F H (rgD a b) (rgV a b) := by
  unfold rgD rgV
  induction (List.range (b - a).toNat) with
  | nil => rfl
  | cons i l ih => exact ⟨_, _, rfl, rfl, ih⟩
theorem rgOk_of {a b : Int} (h : okRg a b = true) : RgOk a b := by
  obtain ⟨⟨h1, h2, h3, h4⟩, h5⟩ := okRg_in h
  exact ⟨h1, h2, h3, h4, h5⟩
theorem prg_guard {e : Expr} {b : Bool} {m : M (List D)} (h : b = true → PRg X e (tRgM S W m)) : PRg X e (tRgM S W (M.guard b m)) := by
  cases b with
  | true => exact h rfl
  | false => exact fun pins s σ H Q I ⟨F, ρ, R, w⟩ => w.elim
theorem prg_D {C : Cfg} {sc : Scope} {f : Expr → M Rv} {a : Expr} {m : M (List D)} (h : ∀ e, PE X e (tE S W (f e))) (hG : ∀ x t, globOf C sc x = some (.ty t) → TyAt X x t) (hm : rangeArg C sc f a = some m) : PRg X a (tRgM S W m) ∧ (∃ f' es ks p, a = .Call f' es ks p) := by
  unfold rangeArg at hm
  split at hm
  · rename_i x p b pos
    split at hm
    · rename_i hx
      cases hm
      have T := hG _ _ hx
      have nm := T.nm
      subst nm
      refine ⟨prg_guard fun s => PRg.sub (prg_1 T.gl T.mg (h b) (star_ok (star1 s))) fun σ H Q ⟨F, ρ, R, w⟩ => run_E R w fun r F1 ρ1 H1 v P rv nv w => ?_, _, _, _, _, rfl⟩
      obtain ⟨n, k, en, rfl, ok, w⟩ := rgM_inv w
      cases en
      exact ⟨k, rv, Wg.now P.rep w 0 k rfl ok⟩
    · cases hm
  · rename_i x p b c pos
    split at hm
    · rename_i hx
      cases hm
      have T := hG _ _ hx
      have nm := T.nm
      subst nm
      refine ⟨prg_guard fun s => PRg.sub (prg_2 T.gl T.mg (h b) (h c) (star_ok (star2 s).1) (star_ok (star2 s).2) (star_any fun e he => by rw [List.mem_singleton.mp he]; exact (star2 s).2)) fun σ H Q ⟨F, ρ, R, w⟩ => run_E2 R w fun r s F2 ρ2 H2 v u P rv ru _ _ w => ?_, _, _, _, _, rfl⟩
      obtain ⟨n, k, rfl, rfl, ok, w⟩ := rgM_inv w
      exact ⟨n, k, rv, ru, Wg.now P.rep w n k rfl ok⟩
    · cases hm
  · cases hm
def tTupRgZ (te : St → Hp → (Int → Int → Hp → Prop) → Prop) : TE := fun σ H Q => te σ H fun a b H1 => RgOk a b ∧ ∀ q ob, H1 q = none → ob.dict = Option.none → Q (.ref q) (upd H1 q (.frz ob (.tup (rgV a b))))
theorem pe_tupRgZ {e : Expr} {te : St → Hp → (Int → Int → Hp → Prop) → Prop} {p pos : Pos} (hc : X.calm = true) (hg : Gl X "tuple") (hm : X.mg "tuple" = none) (he : PRg X e te) (na : starEach [e] X.env = (false, eval e X.env) :: starEach [] X.env) : PE X (.Call (.Name "tuple" p) [e] [] pos) (tTupRgZ te) := by
  refine ⟨fun pins s σ H Q I h => ?_⟩
  refine Call_ (ld_blt I hg hm boot_tuple (PyProof.Rows.callWith_type1 (args_cons (thn (he pins s σ H _ I h) fun x s1 ⟨r, a, b, t, u, v, H1, ex, hr, I1, ok, q⟩ => args_nil ?_) na) na))
  subst ex
  obtain ⟨b1, b2, b3, b4, b5⟩ := ok
  refine call_tuple_range (n := (b - a).toNat) (I1.ok.hd hc) hr (small_one b1 b2 b3 b4) (rangeSize_nat a b) b5 fun h' tk acc hk hi => ?_
  have I2 : Inv X pins σ H1 { s1 with heap := h', toks := tk } := I1.kept hk
  have ea : acc = acc.toList.toArray := by simp
  rw [ea]
  exact ⟨.ref h'.objs.size, _, lay_tup (s := { s1 with heap := h', toks := tk }) (t' := tk) I2 (fun _ _ e => e) (Nat.le_refl _) (vals_rg hi) (by rw [rgV_length, sizeLine_eq]; omega), rfl, q _ _ (I2.hok.fresh (Nat.le_refl _)) rfl⟩
theorem bi_run {f : Expr → M Rv} {es : List Expr} {g : List D → Option Rv} {σ : St} {H : Hp} {Q : VK} (w : tE S W (M.bnd (evArgs f es) fun rs => M.bnd (looks rs) fun ds => M.opt (g ds)) σ H Q) : tCB (rBi S W g) (tA S W (evArgs f es)) σ H Q := by
  obtain ⟨F, ρ, R, w⟩ := w
  exact run_A R w fun rs F1 ρ1 H1 vs P rvs nvs w => ⟨F1, σ, ρ1, rs, P.rep, rvs, w.imp fun a F' ρ' H' _ g => g.mid P⟩
theorem pe_plainTy {f : Expr → M Rv} {n : String} {x : Str} {a : Expr} {es : List Expr} {p pos : Pos} (hK : X.K = S.K) (T : TyAt X x n) (h : ∀ e, PE X e (tE S W (f e))) : PE X (.Call (.Name x p) (a :: es) [] pos) (tE S W (plainTy f n (a :: es))) :=
  pe_guard fun s => PE.sub (pe_callTy (call_ty hK) T.gl T.mg T.bt (pa_ev fun e _ => h e) T.nn T.nd (star_ok (star_of s a List.mem_cons_self)) (star_any fun e he => star_of s e (List.mem_cons_of_mem _ he))) fun σ H Q w => bi_run w
theorem pe_callTyE {C : Cfg} {sc : Scope} {f : Expr → M Rv} {n : String} {x : Str} {args : List Expr} {p pos : Pos} (hK : X.K = S.K) (hc : X.calm = true) (T : TyAt X x n) (hG : ∀ x t, globOf C sc x = some (.ty t) → TyAt X x t) (h : ∀ e, PE X e (tE S W (f e))) : PE X (.Call (.Name x p) args [] pos) (tE S W (callTy C sc f n args)) := by
  unfold callTy
  split
  · rename_i a
    split
    · rename_i m hm
      obtain ⟨hP, _, _, _, _, rfl⟩ := prg_D h hG hm
      have nm := T.nm
      split
      · rename_i hn
        have hn : n = "list" := by simpa using hn
        subst hn
        subst nm
        exact PE.sub (pe_listRg hc T.gl T.mg hP) fun σ H Q ⟨F, ρ, R, w⟩ => ⟨F, ρ, R, w.bnd.imp fun ds F1 ρ1 H1 P w a b e ok => ⟨rgOk_of ok, fun q nq => by
          subst e
          exact put_lst P.rep (w.imp fun a F' ρ' H' _ g => g.mid P) (rg_reps a b) nq⟩⟩
      · split
        · rename_i hn
          have hn : n = "tuple" := by simpa using hn
          subst hn
          subst nm
          exact PE.sub (pe_tupRgZ hc T.gl T.mg hP rfl) fun σ H Q ⟨F, ρ, R, w⟩ => ⟨F, ρ, R, w.bnd.imp fun ds F1 ρ1 H1 P w a b e ok => ⟨rgOk_of ok, fun q ob nq hd => by
            subst e
            exact put_tup P.rep (w.imp fun a F' ρ' H' _ g => g.mid P) (rg_reps a b) nq hd⟩⟩
        · exact pe_no fun ρ => rfl
    · exact pe_plainTy hK T h
  · exact pe_no fun ρ => rfl
theorem call_isF {a : Expr} {ma : M Rv} {n x : Str} {b : Bool} {D : Addr} {p p2 pos : Pos} (ha : PE X a (tE S W ma)) (hs : ∀ e' p, a ≠ .Starred e' p) (hg : Gl X "isinstance") (hm : X.mg "isinstance" = none)
    (gx : Gl X x) (hc : CallR X (.builtin "isinstance") (rIsE X.K D (S.fa exnK))) (hv : (∃ Cc, X.mg x = some (.ref Cc) ∧ PySem.W.kitOne X.K (.ref D) (.ref Cc) = some b) ∨ ∃ t, X.mg x = none ∧ bootBuiltins x = some (.type t) ∧ PySem.W.kitOne X.K (.ref D) (.type t) = some b) (n1 : x ≠ "__name__") (n2 : (x == ("__debug__" : Str)) = false) :
    PE X (.Call (.Name "isinstance" p) [a, .Name x p2] [] pos) (tE S W (M.bnd ma fun r => match r with
        | .val (.fn k) => M.guard (decide (k = exnK)) (M.ret (rvB b))
        | _ => M.bad)) := by
  have go : ∀ (c : V) (cv : Value), PE X (.Name x p2) (tC c) → (∀ u, RelV c u → u = cv) → PySem.W.kitOne X.K (.ref D) cv = some b → PE X (.Call (.Name "isinstance" p) [a, .Name x p2] [] pos) (tE S W (M.bnd ma fun r => match r with
        | .val (.fn k) => M.guard (decide (k = exnK)) (M.ret (rvB b))
        | _ => M.bad)) := fun c cv hx hcv hk => by
    refine PE.sub (pe_callB hc hg hm (by decide +kernel) (pa_cons ha (pa_cons hx pa_nil (by rfl)) (star_ok hs)) (he := star_ok hs)) fun σ H Q ⟨F, ρ, R, w⟩ => ?_
    refine run_E R w fun r F1 ρ1 H1 v p1 rv nv w => ?_
    cases r with
    | val d =>
      cases d with
      | fn k =>
        have w : Wg S W σ F1 ρ1 H1 (M.guard (decide (k = exnK)) (M.ret (rvB b)) ρ1) _ := w
        cases hk2 : decide (k = exnK) with
        | false => rw [hk2] at w; exact w.elim
        | true =>
          rw [hk2] at w
          have e := of_decide_eq_true hk2
          subst e
          have e : v = .ref (S.fa exnK) := rv
          subst e
          exact ⟨c, cv, b, rfl, hcv, hk, Wg.now p1.rep w (.bl b) rfl trivial⟩
      | _ => exact w.elim
    | _ => exact w.elim
  rcases hv with ⟨Cc, h1, h2⟩ | ⟨t, h1, h2, h3⟩
  · exact go (.ref Cc) (.ref Cc) (pe_glob gx h1 rfl n2) (fun u ru => ru) h2
  · exact go (.ty t) (.type t) (pe_bltn gx h1 h2 rfl n1 n2) (fun u ru => ru) h3
theorem pe_callBiE {C : Cfg} {sc : Scope} {f : Expr → M Rv} {id : String} {x : Str} {args : List Expr} {p pos : Pos} (hK : X.K = S.K) (hu : X.A.units + 64 < cLine) (hc : C.su = false → X.calm = true) (gl : Gl X x) (mg : X.mg x = none) (nm : x = Str.ofString id) (bt : bootBuiltins x = some (.builtin id)) (nd : (x == ("__debug__" : Str)) = false) (nn : x ≠ "__name__")
    (hG : ∀ x t, globOf C sc x = some (.ty t) → TyAt X x t) (hF : ∀ x b, globOf C sc x = some (.flag b) → Gl X x ∧ FlagG S X x b ∧ (x == ("__debug__" : Str)) = false ∧ x ≠ "__name__") (h : ∀ e, PE X e (tE S W (f e))) : PE X (.Call (.Name x p) args [] pos) (tE S W (callBi C sc f id args)) := by
  unfold callBi
  split
  · rename_i hid
    have hid : id = "isinstance" := by simpa using hid
    subst hid
    subst nm
    split
    · rename_i a y p2
      split
      · rename_i n hy
        have T := hG _ _ hy
        exact pe_guard fun s => call_isiD (n := y) hK (h a) (star1 s) gl mg T.gl T.mg T.bt T.nn T.nd
      · rename_i b hy
        obtain ⟨g1, ⟨D, hc, hv⟩, g2, g3⟩ := hF _ _ hy
        exact pe_guard fun s => call_isF (n := y) (h a) (star1 s) gl mg g1 hc hv g3 g2
      · exact pe_no fun ρ => rfl
    · exact pe_no fun ρ => rfl
  · split
    · exact pe_no fun ρ => rfl
    · rename_i hne
      cases args with
      | nil => exact absurd rfl hne
      | cons a es =>
        refine pe_guard fun s => ?_
        rw [Bool.and_eq_true, decide_eq_true_eq] at s
        obtain ⟨hsu, s⟩ := s
        exact PE.sub (pe_callB (call_bi hK (hc hsu) hu) gl mg bt (pa_ev fun e _ => h e) nn nd (star_ok (star_of s a List.mem_cons_self)) (star_any fun e he => star_of s e (List.mem_cons_of_mem _ he))) fun σ H Q w => bi_run w
theorem pe_callMtE {C : Cfg} {sc : Scope} {n : Nat} {v : Ev} (V : Snd S C n v) (o : Ok S C X W sc n) {ob : Expr} {m : Str} {args : List Expr} {apos pos : Pos} (hline : (apos.endLine == pos.line) = true) (hn : decide (args.length < 30) = true) (hs : noStar args = true) (hb : okBase ob = true) :
    PE X (.Call (.Attribute ob m apos) args [] pos) (tE S W (callMt C v sc ob m args)) := by
  have h := V.E X W sc o
  unfold callMt
  split
  · rename_i hch
    split
    · rename_i x p
      cases hsl : slotOf C.N sc x with
      | none => exact pe_no fun ρ => rfl
      | some j =>
        obtain ⟨a, b, c, d⟩ := slot_at o.o hsl
        unfold isCh at hch
        simp only [Bool.or_eq_true, beq_iff_eq] at hch
        rcases hch with (rfl | rfl) | rfl
        · exact pe_chg PySem.F.slot_list_pop PySem.F.type_list_pop (MtR.or mt_pop mt_popAt) a b c d hs hn hline (fun e _ => h e) chg_pop
        · exact pe_chg PySem.F.slot_list_append PySem.F.type_list_append mt_append a b c d hs hn hline (fun e _ => h e) chg_append
        · exact pe_chg PySem.F.slot_list_extend PySem.F.type_list_extend mt_extend a b c d hs hn hline (fun e _ => h e) chg_extend
    · exact pe_no fun ρ => rfl
  · refine pe_guard fun he => ?_
    cases args with
    | nil => cases he
    | cons e es => exact pe_mtD o.o.k (h ob) hs hn hline hb fun e' _ => h e'
end
end Pyd
end

section
set_option Elab.async false
set_option linter.all false
set_option maxRecDepth 100000
set_option maxHeartbeats 4000000
/-! Pyd, part S: the interpreter is sound: expressions, tests, statements. -/
namespace Pyd
open PySem PySem.Spec L2
open PyProof.Rows hiding St
section
variable {S : Sx} {C : Cfg} {n : Nat} {v : Ev} {X : Cx} {W : WX} {sc : Scope}
theorem pe_callNmE (V : Snd S C n v) (o : Ok S C X W sc n) {x : Str} {args : List Expr} {p pos : Pos} : PE X (.Call (.Name x p) args [] pos) (tE S W (callNm C v sc x args)) := by
  have h := V.E X W sc o
  have hG : ∀ x t, globOf C sc x = some (.ty t) → TyAt X x t := fun x t => ty_at o.o
  have hF : ∀ x b, globOf C sc x = some (.flag b) → Gl X x ∧ FlagG S X x b ∧ (x == ("__debug__" : Str)) = false ∧ x ≠ "__name__" := fun x b hx => by
    obtain ⟨a, q, c, d⟩ := glob_at o.o hx
    exact ⟨a, q.2, c, d⟩
  unfold callNm
  split
  · rename_i k hx
    obtain ⟨gl, A, nd, nn⟩ := glob_at o.o hx
    refine pe_guard fun g => ?_
    rw [Bool.and_eq_true, Bool.and_eq_true, decide_eq_true_eq] at g
    obtain ⟨hsu, g⟩ := g
    cases args with
    | nil => cases g.1
    | cons e es => exact pe_callR (show FnAt S C X n x k from A) (o.o.room hsu) o.o.tk gl nd g.2 fun e' _ => h e'
  · rename_i k hx
    split
    · rename_i ps body scope lp
      refine pe_guard fun g => ?_
      simp only [Bool.and_eq_true, decide_eq_true_eq] at g
      obtain ⟨⟨g1, g2⟩, g4, g5⟩ := g
      exact o.lam g4 g1 x k ps body scope lp p pos _ hx g2 fun X' W' o' => V.E X' W' scope ⟨o', fun e => absurd e g5⟩ body
    · exact pe_no fun ρ => rfl
  · rename_i id hx
    obtain ⟨gl, ⟨m, nm, bt⟩, nd, nn⟩ := glob_at o.o hx
    exact pe_callBiE o.o.k o.o.line o.o.calm gl m nm bt nd nn hG hF h
  · rename_i t hx
    exact pe_guard fun hsu => pe_callTyE o.o.k (o.o.calm (of_decide_eq_true hsu)) (ty_at o.o hx) hG h
  · exact pe_no fun ρ => rfl
theorem stepE_snd (V : Snd S C n v) (o : Ok S C X W sc n) (e : Expr) : PE X e (tE S W (stepE C v sc e)) := by
  have h := V.E X W sc o
  have t := V.T X W sc o
  cases e <;> first | exact pe_no fun ρ => rfl | skip
  · exact pe_boolE o.o.k h
  · exact pe_binE o.o.k (h _) (h _)
  · exact pe_unE o.o.k (h _)
  · exact pe_ifE (t _) (h _) (h _)
  · rename_i ks vs p
    cases ks with
    | nil =>
      cases vs with
      | nil => exact pe_dictE
      | cons _ _ => exact pe_no fun ρ => rfl
    | cons _ _ => exact pe_no fun ρ => rfl
  · exact pe_comp V o
  · exact pe_cmpAll o.o.k (line_of o.o) h
  · rename_i f args kws pos
    cases kws with
    | cons _ _ => exact pe_no fun ρ => rfl
    | nil =>
      cases f <;> first | exact pe_no fun ρ => rfl | skip
      · rename_i ob m apos
        refine pe_guard fun g => ?_
        rw [Bool.and_eq_true, Bool.and_eq_true, Bool.and_eq_true] at g
        exact pe_callMtE V o g.1.1.1 g.1.1.2 g.1.2 g.2
      · exact pe_callNmE V o
  · rename_i c k p
    cases c <;> first | exact pe_no fun ρ => rfl | skip
    · exact pe_constE pe_non fun F H => rfl
    · exact pe_constE pe_bl fun F H => rfl
    · exact pe_constE pe_int fun F H => rfl
    · exact pe_constE pe_str fun F H => rfl
  · rename_i a i p
    have go : plainIx i = true → PE X (.Subscript a i p) (tE S W (M.bnd (v.E sc a) fun r => M.bnd (v.E sc i) fun s => lift2 (fun d k => (ixD d k).map Rv.val) r s)) := fun hp => pe_ixE o.o.k (h a) (h i) (by
      intro x y
      cases i <;> first | rfl | cases hp)
    cases i <;> first | exact go rfl | skip
    rename_i lo hi st p2
    cases st with
    | none => exact pe_slE o.o.k h
    | some st =>
      show PE X _ (tE S W (revM lo hi st (v.E sc a)))
      cases lo with
      | some _ => exact pe_no fun ρ => rfl
      | none => cases hi with
        | some _ => exact pe_no fun ρ => rfl
        | none =>
          show PE X _ (tE S W (M.guard (isM1 st) (M.bnd (v.E sc a) fun r => lift1 revD r)))
          refine pe_guard fun g => ?_
          unfold isM1 at g
          split at g
          · exact pe_revE o.o.k (h a)
          · cases g
  · rename_i x p
    show PE X _ (tE S W (match slotOf C.N sc x with
      | some i => varM i
      | none => match globOf C sc x with
        | some (.const d) => M.ret (.val d)
        | some (.fn k) => M.ret (.val (.fn k))
        | _ => M.bad))
    cases hs : slotOf C.N sc x with
    | some i =>
      obtain ⟨a, b, c, d⟩ := slot_at o.o hs
      exact pe_varE a b c d
    | none =>
      simp only
      split
      · rename_i d hx
        obtain ⟨gl, ⟨u, w, hm, r, hr⟩, nd, nn⟩ := glob_at o.o hx
        exact pe_constE (pe_glob gl hm r nd) hr
      · rename_i k hx
        obtain ⟨gl, A, nd, nn⟩ := glob_at o.o hx
        have A : FnAt S C X n x k := A
        exact pe_constE (v := .ref (S.fa k)) (pe_glob gl A.mg rfl nd) fun F H => rfl
      · exact pe_no fun ρ => rfl
  · exact pe_evLst fun e _ => h e
  · exact pe_evTup fun e _ => h e
theorem stepT_snd (V : Snd S C n v) (o : Ok S C X W sc n) (e : Expr) : PT X e (tT S W (stepT C v sc e)) := by
  have h := V.E X W sc o
  have t := V.T X W sc o
  have pl : ∀ {e : Expr}, (∀ whole, isTrue e X.env whole = (do let v ← whole; standAt e.pos; holding [v] (truthy v))) → PT X e (tT S W (M.bnd (v.E sc e) fun r => M.bnd (look r) fun d => M.opt (truD d))) := fun {e} he => pt_plain o.o.k (h e) he
  cases e <;> first | exact pl fun _ => rfl | skip
  · exact (pw_tests t).pt
  · rename_i op a p
    cases op <;> first | exact pl fun _ => rfl | skip
    exact pt_notE (t a)
  · exact pt_no fun ρ => rfl
  · exact pt_cmpAll o.o.k (line_of o.o) h
end
end Pyd
end

section
set_option Elab.async false
set_option linter.all false
set_option maxRecDepth 100000
set_option maxHeartbeats 4000000
/-! Pyd, part T: the interpreter is sound for statements. -/
namespace Pyd
open PySem PySem.Spec L2
open PyProof.Rows hiding St
def RaiseF (S : Sx) (C : Cfg) (X : Cx) (W : WX) (sc : Scope) : Prop := ∀ (f : Expr → M Rv) (x : Str) (args : List Expr) (p1 p2 p3 : Pos), (∀ e, PE X e (tE S W (f e))) → PS X (.Raise (some (.Call (.Name x p1) args [] p2)) none p3) (tS S W (raiseM C sc f x args))
structure OkS (S : Sx) (C : Cfg) (X : Cx) (W : WX) (sc : Scope) (n : Nat) : Prop where
  o : Ok S C X W sc n
  po : PassesOwn (model X.prog X.w) X.A X.env X.xe
  rs : RaiseF S C X W sc
section
variable {S : Sx} {C : Cfg} {n : Nat} {v : Ev} {X : Cx} {W : WX} {sc : Scope}
theorem tE.imp {m : M Rv} {σ : St} {H : Hp} {Q Q' : VK} (h : tE S W m σ H Q) (i : ∀ v H', Q v H' → Q' v H') : tE S W m σ H Q' := by
  obtain ⟨F, ρ, R, w⟩ := h
  exact ⟨F, ρ, R, w.imp fun r F' ρ' H' _ g v a b => i v H' (g v a b)⟩
theorem named_at (o : Ok0 S C X W sc n) {ts : List Expr} (h : named C.N sc ts = true) {x : Str} {p : Pos} (hm : Expr.Name x p ∈ ts) : ∃ i, locOf C.N sc x = some i := by
  have q := List.all_eq_true.mp h _ hm
  exact Option.isSome_iff_exists.mp q
theorem tgE_name {f : Expr → M Rv} {d i : Nat} {x : Str} {p : Pos} (h : locOf C.N sc x = some i) : tgE C sc f (d + 1) (.Name x p) = storeAt i ∧ tgL C.N sc (d + 1) (.Name x p) = [i] := by
  refine ⟨?_, ?_⟩
  · funext s
    show (match locOf C.N sc x with
      | some i => storeAt i s
      | none => M.bad) = _
    rw [h]
  · show (locOf C.N sc x).toList = _
    rw [h]
    rfl
/-- a list made by a comprehension, handed to a name at once -/
theorem ps_lcName {f : Expr → M Rv} (V : Snd S C n v) (o : Ok S C X W sc n) {y : Str} {py pos spos : Pos} {elt : Expr} {gs : List Comprehension} {scope : Scope} {i : Nat} (hl : locOf C.N sc y = some i) (hyl : X.env.scope.names.lookup y = some .local) (hsw : swapsWith (.ListComp elt gs scope pos) (some (.Name y py)) spos.line X.env = pure true) :
    PS X (.Assign [.Name y py] (.ListComp elt gs scope pos) spos) (tS S W (M.bnd (evComp C v sc elt gs scope) fun r => M.bnd (toSl r) fun s => M.bnd (tgE C sc f 4 (.Name y py) s) fun _ => M.ret .nx)) := by
  have hb : ∀ {k : Rv → M Pyd.Flow} {m : M Rv}, (∀ ρ, m ρ = .bad) → PS X (.Assign [.Name y py] (.ListComp elt gs scope pos) spos) (tS S W (M.bnd m k)) := fun {k m} h => ps_no fun ρ => by
    unfold M.bnd
    rw [h]
  obtain ⟨e1, e2⟩ := tgE_name (f := f) (d := 3) (p := py) hl
  unfold evComp
  split
  · rename_i tg it ifs a
    cases hg : decide (a = 0) && (blkC C.N sc scope (ownOf C.N scope) && (decide (scope ≠ C.dsc) && decide (C.su = false))) with
    | false => exact hb fun ρ => rfl
    | true =>
      simp only [Bool.and_eq_true, decide_eq_true_eq] at hg
      obtain ⟨rfl, gb, hd, hsu⟩ := hg
      by_cases hi : ∃ ρ, evIter C sc (v.E sc) tg it ρ ≠ .bad
      · refine PS.sub (ps_setLc (o.o.calm hsu) (by rw [o.o.N]; exact o.o.nd) (loc_at o.o hl).1 hyl hsw (pi_evIter o.o.k (V.E _ _ _ o) fun x t => ty_at o.o) (blkOk_at o.o gb) (fun s H Ca cl fp => (lc_parts (elt := elt) (ifs := ifs) V o.o hd hsu s H Ca cl fp).1) (fun s H Ca cl fp => (lc_parts (elt := elt) (tg := tg) V o.o hd hsu s H Ca cl fp).2.1) (fun s H Ca cl fp => (lc_parts (ifs := ifs) (tg := tg) V o.o hd hsu s H Ca cl fp).2.2)
          (evIter_set hi)) fun D σ H w => ?_
        rw [e1] at w
        have w := asg_run (L := [i]) w
        exact lc_run (tgL_own 4 tg) (tE.imp w fun v H' => name_run (List.mem_singleton.mpr rfl))
      · refine hb fun ρ => ?_
        have e : evIter C sc (v.E sc) tg it ρ = .bad := Classical.byContradiction fun z => hi ⟨ρ, z⟩
        show M.bnd (evIter C sc (v.E sc) tg it) _ ρ = _
        unfold M.bnd
        rw [e]
  · exact hb fun ρ => rfl
theorem ps_asg1 {v0 : Ev} (V0 : Snd S C n v0) (o : Ok S C X W sc n) {t e : Expr} {pos : Pos} (hpar : ∀ ts k p es k' p', t = .Tuple ts k p → e ≠ .Tuple es k' p') : PS X (.Assign [t] e pos) (tS S W (asg1 C sc (stepE C v0 sc) t e)) := by
  have h : ∀ e, PE X e (tE S W (stepE C v0 sc e)) := stepE_snd V0 o
  refine ps_guardM fun g => ?_
  rw [Bool.and_eq_true] at g
  have hst : ∀ e' p, t ≠ .Starred e' p := fun e' p z => by subst z; cases g.1
  have hg := pg_tgE o.o h 4 t
  have hw : swappedStores [t] e X.env = pure none := by
    cases t <;> first | rfl | cases g.1 | skip
    cases e <;> first | rfl | exact absurd rfl (hpar _ _ _ _ _ _ rfl)
  have plain : swapsWithSole [t] e pos.line X.env = pure false → PS X (.Assign [t] e pos) (tS S W (M.bnd (stepE C v0 sc e) fun r => M.bnd (toSl r) fun s => M.bnd (tgE C sc (stepE C v0 sc) 4 t s) fun _ => M.ret .nx)) := fun hs => ps_asgE (h e) hg hs hw hst
  cases e <;> first | exact plain rfl | skip
  · rename_i elt gs scope p
    cases t <;> first | exact plain rfl | cases g.1 | skip
    rename_i y py
    obtain ⟨i, hl⟩ := named_at o.o g.2 (p := py) List.mem_cons_self
    cases hb : X.env.blockKind == .function && X.env.kindOf y == some .local && py.line == p.line && !(scope.names.any fun (n, k) => n == y && (k == .local || k == .cell)) with
    | false => exact plain (by show pure _ = _; rw [← hb]; rfl)
    | true =>
      have hyl : X.env.scope.names.lookup y = some .local := by
        simp only [Bool.and_eq_true, beq_iff_eq] at hb
        exact hb.1.1.2
      exact ps_lcName V0 o hl hyl (by show pure _ = _; rw [← hb]; rfl)
  · exact ps_no fun ρ => rfl
  · exact ps_no fun ρ => rfl
theorem ps_asgM {v0 : Ev} (V0 : Snd S C n v0) (o : Ok S C X W sc n) {t e : Expr} {pos : Pos} : PS X (.Assign [t] e pos) (tS S W (asgM C sc (stepE C v0 sc) t e)) := by
  have h : ∀ e, PE X e (tE S W (stepE C v0 sc e)) := stepE_snd V0 o
  unfold asgM
  split
  · rename_i ts k p
    split
    · rename_i es k2 p2
      refine ps_guardM fun g1 => ps_guardM fun g2 => ?_
      simp only [Bool.and_eq_true, decide_eq_true_eq] at g1 g2
      obtain ⟨⟨a, b⟩, c, d⟩ := g2
      obtain ⟨hsu, g1⟩ := g1
      exact ps_parE (o.o.calm hsu) (by rw [o.o.N]; exact o.o.nd) h (pg_tgE o.o h 4) (fun x p hm => by
        obtain ⟨i, hl⟩ := named_at o.o g1 hm
        obtain ⟨e1, e2⟩ := tgE_name (f := stepE C v0 sc) (d := 3) (p := p) hl
        exact ⟨i, (loc_at o.o hl).1, e1, by rw [e2]; exact List.mem_singleton.mpr rfl⟩) a b c d
    · rename_i hne
      exact ps_asg1 V0 o fun ts k p es k' p' _ e => hne es k' p' e
  · rename_i hne
    exact ps_asg1 V0 o fun ts k p es k' p' e => absurd e (hne ts k p)
theorem stepS_snd {v0 : Ev} {vS : Stmt → M Pyd.Flow} (V0 : Snd S C n v0) (hS : ∀ s, PS X s (tS S W (vS s))) (o : OkS S C X W sc n) (s : Stmt) : PS X s (tS S W (stepS C ⟨stepE C v0, stepT C v0, vS⟩ sc s)) := by
  have h : ∀ e, PE X e (tE S W (stepE C v0 sc e)) := stepE_snd V0 o.o
  have t : ∀ e, PT X e (tT S W (stepT C v0 sc e)) := stepT_snd V0 o.o
  have b : ∀ ss, PSs X ss (tS S W (evBlk vS ss)) := fun ss => pss_evBlk hS
  cases s <;> first | exact ps_no fun ρ => rfl | skip
  · rename_i e p
    cases e with
    | none => exact ps_retNE
    | some e => exact ps_retE (h e)
  · rename_i ts e p
    cases ts with
    | nil => exact ps_no fun ρ => rfl
    | cons t ts =>
      cases ts with
      | nil => exact ps_asgM V0 o.o
      | cons _ _ => exact ps_no fun ρ => rfl
  · rename_i t op e p
    cases t <;> first | exact ps_no fun ρ => rfl | skip
    rename_i x px
    show PS X _ (tS S W (match locOf C.N sc x with
      | some i => augM i op (stepE C v0 sc e)
      | none => M.bad))
    cases hl : locOf C.N sc x with
    | none => exact ps_no fun ρ => rfl
    | some i =>
      obtain ⟨a, b, c⟩ := loc_at o.o.o hl
      exact ps_augE (by rw [o.o.o.N]; exact o.o.o.nd) a b c (h e)
  · rename_i tg it body els p
    cases els with
    | cons _ _ => exact ps_no fun ρ => rfl
    | nil =>
      refine ps_guardM fun hsu => ?_
      by_cases hi : ∃ ρ, evIter C sc (stepE C v0 sc) tg it ρ ≠ .bad
      · exact PS.sub (ps_for o.po (o.o.o.calm (of_decide_eq_true hsu)) (pi_evIter o.o.o.k h fun x t => ty_at o.o.o) (pg_tgE o.o.o h 4 tg) (b body) (evIter_set hi)) fun D σ H w => for_run w
      · refine ps_no fun ρ => ?_
        have e : evIter C sc (stepE C v0 sc) tg it ρ = .bad := Classical.byContradiction fun z => hi ⟨ρ, z⟩
        show M.bnd (evIter C sc (stepE C v0 sc) tg it) _ ρ = _
        unfold M.bnd
        rw [e]
  · rename_i c body els p
    cases els with
    | cons _ _ => exact ps_no fun ρ => rfl
    | nil => exact PS.sub (ps_while o.po (t c) (b body)) fun D σ H w => while_run w
  · exact ps_ifE (t _) (b _) (b _)
  · rename_i e c p
    cases e with
    | none => exact ps_no fun ρ => rfl
    | some e =>
      cases c with
      | some _ => 
        refine ps_no fun ρ => ?_
        cases e <;> first | rfl | skip
        rename_i f args kws pos
        cases kws <;> cases f <;> rfl
      | none =>
        cases e <;> first | exact ps_no fun ρ => rfl | skip
        rename_i f args kws pos
        cases kws with
        | cons _ _ => exact ps_no fun ρ => by cases f <;> rfl
        | nil =>
          cases f <;> first | exact ps_no fun ρ => rfl | skip
          exact o.rs _ _ _ _ _ _ h
  · rename_i e p
    exact ps_guardM fun g => ps_exprE (h e) (by simpa using g)
  · exact ps_passE
end
theorem ev_snd {S : Sx} {C : Cfg} {n : Nat} {sc0 : Scope} : ∀ d, Snd S C n (ev C sc0 d)
  | 0 => ⟨fun X W sc o e => pe_no fun ρ => rfl, fun X W sc o e => pt_no fun ρ => rfl⟩
  | d + 1 => ⟨fun X W sc o e => stepE_snd (ev_snd d) o e, fun X W sc o e => stepT_snd (ev_snd d) o e⟩
theorem ev_sndS {S : Sx} {C : Cfg} {n : Nat} {X : Cx} {W : WX} {sc : Scope} (o : OkS S C X W sc n) : ∀ d s, PS X s (tS S W ((ev C sc d).S s))
  | 0, s => ps_no fun ρ => rfl
  | d + 1, s => stepS_snd (ev_snd d) (ev_sndS o d) o s
/-- a def's body -/
theorem body_snd {S : Sx} {C : Cfg} {n : Nat} {X : Cx} {W : WX} {sc : Scope} (o : OkS S C X W sc n) (d : Nat) (ss : List Stmt) : PSs X ss (tS S W (evBlk (ev C sc d).S ss)) := pss_evBlk (ev_sndS o d)
end Pyd
end

section
set_option Elab.async false
set_option linter.all false
set_option maxRecDepth 100000
set_option maxHeartbeats 4000000
/-! Pyd, part U: errors are raised; defs by levels. -/
namespace Pyd
open PySem PySem.Spec L2
open PyProof.Rows hiding St
/-- an error class without a field of its own -/
structure ClsAt (K : PySem.W.Frag) (mg : Str → Option Value) (x : Str) (C : Addr) : Prop where
  mg : mg x = some (.ref C)
  kp : PySem.W.keepIn K (.ref C) = true
  ex : ∃ (B newId initId : String) (bmB : List Value), ExcBaseFacts B newId initId bmB ∧ PySem.W.excIn K C bmB newId = true
  sub : PySem.W.subIn K (.ref C) (.type "BaseException") = some true
  ty : PySem.W.typeIn K (.ref C) = some (.type "type")
section
variable {S : Sx} {W : WX} {X : Cx} {C : Cfg} {sc : Scope} {n : Nat}
theorem pmk_own0 {x : Str} {C : Addr} {p pos : Pos} (T : ClsAt X.K X.mg x C) (hg : Gl X x) (hdb : (x == ("__debug__" : Str)) = false) : PMk X (.Call (.Name x p) [] [] pos) (fun _ H Q => Q (.ref C) none H) := by
  intro pins s σ H Q I h
  refine wpAny_Call_Name_kw (ld_glob I hg T.mg ?_ hdb)
  refine PySem.W.callWith_K0 I.kIn T.kp ?_
  show wpAny _ _ (call (.ref C) []) _ _ _
  obtain ⟨B, newId, initId, bmB, F, q⟩ := T.ex
  obtain ⟨bm, N, nm, qn, bs, hdct, sn, sub, ab, col, dd, k0, k1, k2, k3, k5, mN, hC, hN, hni, T'⟩ := exc_obj I.kIn q
  refine wpAny_call_exc_subT F T' hC hN hni (fun h' e hm => ?_) (Nat.zero_le _)
  exact mk_of I hm (raises_own T.sub T.ty) h (I.hok.gone hm.new)
theorem raise_ok (hsu : C.su = false) (o : Ok0 S C X W sc n) (h0 : ∀ x, C.glob x = some (.exc false) → ClsAt X.K X.mg x (S.ca x)) (h1 : ∀ x, C.glob x ≠ some (.exc true)) : RaiseF S C X W sc := by
  intro f x args p1 p2 p3 h
  unfold raiseM
  split
  · rename_i hx
    split
    · have T := h0 x (by
        unfold globOf at hx
        split at hx
        · split at hx
          · cases hx
          · exact hx
        · cases hx)
      obtain ⟨gl, _, nd, _⟩ := glob_at o hx
      exact PS.sub (ps_raise (o.calm hsu) o.tk (pmk_own0 T gl nd)) fun D σ H ⟨F, ρ, R, w⟩ => w σ F H _ _ (Post.refl R) ⟨rfl, rfl⟩
    · exact ps_no fun ρ => rfl
  · rename_i hx
    refine absurd ?_ (h1 x)
    unfold globOf at hx
    split at hx
    · split at hx
      · cases hx
      · exact hx
    · cases hx
  · exact ps_no fun ρ => rfl
end
/-! ### a def's entry and end -/
section
variable {S : Sx} {F F' : Fz} {H H' : Hp} {σ σ' : St} {vs : List V} {as ss ρ' : List Sl} {N : List Str}
theorem start_at {i : Nat} (h : i < vs.length) : (L2.start N vs)[i]? = (vs.map some)[i]? := by
  unfold L2.start
  rw [List.getElem?_append_left (by rw [List.length_map]; exact h)]
theorem argOnly : ∀ {as ρ' ss : List Sl}, slOut as ρ' = some ss → ss.length = as.length ∧ ∀ (i : Nat) s, as[i]? = some s → (∃ d, s = .val d ∧ ss[i]? = some (.val d)) ∨ ∃ o o', s = .bor o ∧ ρ'[i]? = some (.bor o') ∧ ss[i]? = some (.bor o')
  | [], ρ', ss, h => by
    have h : some [] = some ss := by cases ρ' <;> exact h
    cases h
    exact ⟨rfl, fun i s e => by simp at e⟩
  | a :: as, [], ss, h => by cases a <;> cases h
  | a :: as, r :: ρ', ss, h => by
    have rec_ : ∀ {t : Sl}, (slOut as ρ').map (t :: ·) = some ss → ∃ ts, slOut as ρ' = some ts ∧ ss = t :: ts := fun {t} h => by
      cases e : slOut as ρ' with
      | none => rw [e] at h; cases h
      | some ts => rw [e] at h; cases h; exact ⟨ts, rfl, rfl⟩
    cases a with
    | emp => cases r <;> cases h
    | own o => cases r <;> cases h
    | val d =>
      obtain ⟨ts, e, rfl⟩ := rec_ (t := .val d) (by cases r <;> exact h)
      obtain ⟨l, q⟩ := argOnly e
      refine ⟨by rw [List.length_cons, List.length_cons, l], fun i s es => ?_⟩
      cases i with
      | zero => cases es; exact .inl ⟨d, rfl, rfl⟩
      | succ i => exact q i s (by simpa using es)
    | bor o =>
      cases r <;> try (cases h; done)
      rename_i o'
      obtain ⟨ts, e, rfl⟩ := rec_ (t := .bor o') h
      obtain ⟨l, q⟩ := argOnly e
      refine ⟨by rw [List.length_cons, List.length_cons, l], fun i s es => ?_⟩
      cases i with
      | zero => cases es; exact .inr ⟨o, o', rfl, rfl, rfl⟩
      | succ i => exact q i s (by simpa using es)
def padS (N : List Str) (as : List Sl) : List Sl := as ++ List.replicate (N.length - as.length) .emp
theorem pad_at {i : Nat} {s : Sl} (h : (padS N as)[i]? = some s) : as[i]? = some s ∨ s = .emp := by
  unfold padS at h
  by_cases hi : i < as.length
  · rw [List.getElem?_append_left hi] at h
    exact .inl h
  · rw [List.getElem?_append_right (by omega), List.getElem?_replicate] at h
    split at h
    · cases h; exact .inr rfl
    · cases h
theorem pad_of {i : Nat} {s : Sl} (h : as[i]? = some s) : (padS N as)[i]? = some s := by
  unfold padS
  rw [List.getElem?_append_left (List.getElem?_eq_some_iff.mp h).1]
  exact h
theorem pad_own {i : Nat} : OwnAt (padS N as) i ↔ OwnAt as i := by
  constructor
  · rintro ⟨o, h⟩
    rcases h with h | h
    · rcases pad_at h with z | z
      · exact ⟨o, .inl z⟩
      · cases z
    · rcases pad_at h with z | z
      · exact ⟨o, .inr z⟩
      · cases z
  · rintro ⟨o, h⟩
    exact ⟨o, h.imp pad_of pad_of⟩
theorem own_lt {i : Nat} (h : OwnAt as i) : i < as.length := by
  obtain ⟨o, h⟩ := h
  rcases h with h | h <;> exact (List.getElem?_eq_some_iff.mp h).1
theorem pad_oa (hl : vs.length = as.length) {a : Addr} : OA (L2.start N vs) (padS N as) a ↔ OA (vs.map some) as a := by
  constructor
  · rintro ⟨i, oi, ei⟩
    have oi' := pad_own.mp oi
    exact ⟨i, oi', by rw [← start_at (N := N) (by rw [hl]; exact own_lt oi')]; exact ei⟩
  · rintro ⟨i, oi, ei⟩
    exact ⟨i, pad_own.mpr oi, by rw [start_at (by rw [hl]; exact own_lt oi)]; exact ei⟩
theorem rep_start (R : SRep S F (vs.map some) as H) : SRep S F (L2.start N vs) (padS N as) H := by
  have hl : vs.length = as.length := by have := R.len; rw [List.length_map] at this; exact this
  refine ⟨?_, fun i s hs => ?_, fun i j a oi oj ei ej => ?_, R.fz, R.tabs⟩
  · unfold L2.start padS
    rw [List.length_append, List.length_append, List.length_map, List.length_replicate, List.length_replicate, hl]
  · rcases pad_at hs with z | z
    · have q := R.all i s z
      have hi : i < vs.length := by rw [hl]; exact (List.getElem?_eq_some_iff.mp z).1
      cases s with
      | emp => trivial
      | val d => obtain ⟨v, e, r⟩ := q; exact ⟨v, by rw [start_at hi]; exact e, r⟩
      | own o => obtain ⟨v, e, r⟩ := q; exact ⟨v, by rw [start_at hi]; exact e, r⟩
      | bor o => obtain ⟨v, e, r⟩ := q; exact ⟨v, by rw [start_at hi]; exact e, r⟩
    · subst z; trivial
  · have oi' := pad_own.mp oi
    have oj' := pad_own.mp oj
    rw [start_at (by rw [hl]; exact own_lt oi')] at ei
    rw [start_at (by rw [hl]; exact own_lt oj')] at ej
    exact R.inj i j a oi' oj' ei ej
/-- what the caller sees of it -/
theorem post_end (R : SRep S F (vs.map some) as H) (P : Post S F (L2.start N vs) (padS N as) H F' σ' ρ' H') (e : slOut as ρ' = some ss) : Post S F (vs.map some) as H F' (vs.map some) ss H' := by
  have hl : vs.length = as.length := by have := R.len; rw [List.length_map] at this; exact this
  obtain ⟨l, q⟩ := argOnly e
  have kp := P.kp (rep_start R)
  have at_ : ∀ (i : Nat) s, ss[i]? = some s → (∃ d, as[i]? = some (.val d) ∧ s = .val d) ∨ ∃ o o', as[i]? = some (.bor o) ∧ ρ'[i]? = some (.bor o') ∧ s = .bor o' := fun i s es => by
    have hi : i < as.length := by rw [← l]; exact (List.getElem?_eq_some_iff.mp es).1
    rcases q i as[i] (List.getElem?_eq_getElem hi) with ⟨d, z, y⟩ | ⟨o, o', z, y, x⟩
    · rw [es] at y; cases y
      exact .inl ⟨d, by rw [List.getElem?_eq_getElem hi, z], rfl⟩
    · rw [es] at x; cases x
      exact .inr ⟨o, o', by rw [List.getElem?_eq_getElem hi, z], y, rfl⟩
  have ownS : ∀ i, OwnAt ss i → OwnAt as i := fun i ⟨o, ho⟩ => by
    rcases ho with z | z
    · rcases at_ i _ z with ⟨d, _, y⟩ | ⟨o1, o2, _, _, y⟩ <;> cases y
    · rcases at_ i _ z with ⟨d, _, y⟩ | ⟨o1, o2, x, _, y⟩
      · cases y
      · exact ⟨o1, .inr x⟩
  refine ⟨⟨fun a o ea nt na => P.step.keep a o ea nt fun z => na ((pad_oa hl).mp z), P.step.fs, fun a f => (P.step.fn a f).imp id fun z => z.imp id (pad_oa hl).mp, P.step.ex⟩, ⟨by rw [List.length_map, hl, l], fun i s es => ?_, fun i j a oi oj ei ej => R.inj i j a (ownS i oi) (ownS j oj) ei ej, P.rep.fz, P.rep.tabs⟩, fun a ⟨i, oi, ei⟩ => .inl ⟨i, ownS i oi, ei⟩, fun i o es => ?_⟩
  · rcases at_ i s es with ⟨d, x, rfl⟩ | ⟨o, o', x, y, rfl⟩
    · obtain ⟨v, e1, r⟩ := R.all i _ x
      exact ⟨v, e1, rep_mono kp d v r⟩
    · obtain ⟨o2, b1, b2⟩ := P.bor i o (pad_of x)
      obtain ⟨a, e1, nf, r⟩ := P.rep.all i _ y
      have hi : i < vs.length := by rw [hl]; exact (List.getElem?_eq_some_iff.mp x).1
      exact ⟨a, by rw [← start_at (N := N) hi, ← b2]; exact e1, nf, r⟩
  · rcases q i _ es with ⟨d, z, _⟩ | ⟨o1, o', z, y, x⟩
    · cases z
    · exact ⟨o', x, rfl⟩
/-- the result, as the caller sees it -/
theorem ret_end (R : SRep S F (vs.map some) as H) (P : Post S F (L2.start N vs) (padS N as) H F' σ' ρ' H') (e : slOut as ρ' = some ss) {r r' : Rv} {v : V} (hr : retOf (.ret r) ρ' = some r') (rv : RepR S F' σ' ρ' H' r v) (nv : New H r v) : RepR S F' (vs.map some) ss H' r' v ∧ New H r' v := by
  have hl : vs.length = as.length := by have := R.len; rw [List.length_map] at this; exact this
  have PE := post_end R P e
  obtain ⟨l, q⟩ := argOnly e
  -- an object of the caller's is lent: no name of the def's own holds it
  have lentNot : ∀ (i : Nat) (a : Addr) (o : Ob), ρ'[i]? = some (.own o) → σ'[i]? = some (some (.ref a)) → ¬ OA (vs.map some) as a := fun i a o ho ei ⟨j, oj, ej⟩ => by
    have hj := own_lt oj
    rcases q j as[j] (List.getElem?_eq_getElem hj) with ⟨d, z, _⟩ | ⟨o1, o', z, y, _⟩
    · obtain ⟨o2, h2⟩ := oj
      rw [List.getElem?_eq_getElem hj, z] at h2
      rcases h2 with h2 | h2 <;> cases h2
    · obtain ⟨o3, b1, b2⟩ := P.bor j o1 (pad_of (by rw [List.getElem?_eq_getElem hj, z]))
      have ej' : σ'[j]? = some (some (.ref a)) := by rw [b2, start_at (by rw [hl]; exact hj)]; exact ej
      have z := P.rep.inj i j a ⟨o, .inl ho⟩ ⟨o', .inr y⟩ ei ej'
      subst z
      rw [ho] at y
      cases y
  cases r with
  | val d => cases hr; exact ⟨rv, trivial⟩
  | own o =>
    cases hr
    obtain ⟨a, ea, nf, no, qo⟩ := rv
    refine ⟨⟨a, ea, nf, fun z => ?_, qo⟩, nv⟩
    rcases PE.oa a z with y | y
    · obtain ⟨_, us, e1⟩ := R.oa y
      exact (nv a ea).lst e1
    · obtain ⟨i, oi, ei⟩ := z
      obtain ⟨b, ob, e1, _, _, q1⟩ := PE.rep.own oi
      rw [ei] at e1
      cases e1
      have := PE.oa a ⟨i, oi, ei⟩
      obtain ⟨o2, ho2⟩ := oi
      rcases ho2 with ho2 | ho2
      · have hi : i < as.length := by rw [← l]; exact (List.getElem?_eq_some_iff.mp ho2).1
        rcases q i as[i] (List.getElem?_eq_getElem hi) with ⟨d, _, y⟩ | ⟨_, _, _, _, y⟩ <;> (rw [ho2] at y; cases y)
      · have hi : i < as.length := by rw [← l]; exact (List.getElem?_eq_some_iff.mp ho2).1
        rcases q i as[i] (List.getElem?_eq_getElem hi) with ⟨d, _, y⟩ | ⟨o1, o', z, y, x⟩
        · rw [ho2] at y; cases y
        · have oa : OA (vs.map some) as a := ⟨i, ⟨o1, .inr (by rw [List.getElem?_eq_getElem hi, z])⟩, ei⟩
          obtain ⟨_, us, e1⟩ := R.oa oa
          exact (nv a ea).lst e1
  | var i =>
    have hv : σ'[i]? = some (some v) := rv
    have hr : (match ρ'[i]? with
      | some (.val d) => some (Rv.val d)
      | some (.own o) => some (.own o)
      | _ => none) = some r' := hr
    split at hr
    · rename_i d hd
      cases hr
      obtain ⟨u, e1, r⟩ := P.rep.all i _ hd
      rw [hv] at e1
      cases e1
      exact ⟨r, trivial⟩
    · rename_i o ho
      cases hr
      obtain ⟨a, e1, nf, qo⟩ := P.rep.all i _ ho
      rw [hv] at e1
      cases e1
      have nl := lentNot i a o ho hv
      refine ⟨⟨a, rfl, nf, fun z => ?_, qo⟩, fun b eb => ?_⟩
      · obtain ⟨j, oj, ej⟩ := z
        have hj : j < as.length := by rw [← l]; exact own_lt oj
        obtain ⟨o2, ho2⟩ := oj
        rcases q j as[j] (List.getElem?_eq_getElem hj) with ⟨d, z, y⟩ | ⟨o1, o', z, y, x⟩
        · rcases ho2 with h2 | h2 <;> (rw [y] at h2; cases h2)
        · exact nl ⟨j, ⟨o1, .inr (by rw [List.getElem?_eq_getElem hj, z])⟩, ej⟩
      · cases eb
        exact (P.oa a ⟨i, ⟨o, .inl ho⟩, hv⟩).elim (fun z => absurd ((pad_oa hl).mp z) nl) id
    · cases hr
end
end Pyd
end

section
set_option Elab.async false
set_option linter.all false
set_option maxRecDepth 100000
set_option maxHeartbeats 4000000
/-! Pyd, part V: several clauses 'except X as e' (the road of HandS.Exc.ps_try_as and HandS.TryMany.ps_try_many, joined). -/
namespace Pyd
open PySem PySem.Spec L2
open PyProof.Rows hiding St
abbrev SuiteT := Addr → Value → Option Addr → TS
def goneE (i : Nat) (D : Ends) : Ends := { nx := fun σ' H' => D.nx (σ'.set i none) H', rt := D.rt, bk := fun σ' H' => D.bk (σ'.set i none) H', ct := fun σ' H' => D.ct (σ'.set i none) H' }
/-- the wishes of the clauses, one after the other; slot i is the name's -/
def wAsM (K : PySem.W.Frag) (Wout : WX) (D : Ends) (i : Nat) : List (Value × SuiteT) → WX
  | [] => Wout
  | (c, ts) :: r => fun cls d σ H => ∃ b, PySem.W.exmOne K cls c = some b ∧ (b = true → ∀ a, H a = none → ts a cls d (goneE i D) (σ.set i (some (.ref a))) H) ∧ (b = false → wAsM K Wout D i r cls d σ H)
inductive HasOk (X : Cx) (n : Str) : List ExceptHandler → List (Value × SuiteT) → Prop
  | nil : HasOk X n [] []
  | cons {x : Str} {c : Value} {ts : SuiteT} {s₀ : Stmt} {sr : List Stmt} {q q' : Pos} {hr : List ExceptHandler} {lr : List (Value × SuiteT)} (nm : Names X x c)
      (su : ∀ (a : Addr) (oe : Obj) (cls : Value) (d : Option Addr) (pn : List (Addr × Obj)), Zc cls d oe → (∃ vs, oe.data = .fields vs) → PSs (X.suite a ((a, oe) :: pn)) (s₀ :: sr) (ts a cls d)) (r : HasOk X n hr lr) :
      HasOk X n (.ExceptHandler (some (.Name x q)) (some n) (s₀ :: sr) q' :: hr) ((c, ts) :: lr)
section
variable {X : Cx} {n : Str} {i : Nat} {body : List Stmt} {eh : ExceptHandler} {ehs : List ExceptHandler} {l : List (Value × SuiteT)} {tpos : Pos} {tb : WX → TS} {Wout : WX}
theorem ps_try_asM (stk : X.stack = X.env :: X.outer) (frm : X.env.frame = some X.env.locals) (nd : X.N.Nodup) (at_ : X.N[i]? = some n) (lcl : X.env.kindOf n = some .local) (tk : Takes X Wout)
    (bd : ∀ (W : WX) (pn : List (Addr × Obj)) (xe : Value → Shared → Prop), Takes (X.tr pn xe) W → PassesOwn (model X.prog X.w) X.A X.env xe → PSs (X.tr pn xe) body (tb W)) (hh : HasOk X n (eh :: ehs) l) :
    PS X (.Try body (eh :: ehs) [] [] tpos) (fun D σ H => tb (wAsM X.K Wout D i l) D σ H) := by
  refine ⟨fun pins s σ H D I h => ?_⟩
  have ok := I.ok
  have frs_ : X.A.frames = some (X.env :: X.outer) := by rw [ok.frames, stk]
  have own : Loc X.env.scope n := .inl lcl
  refine wpAny_Try_except ?_
  refine wpAny_mono ((bd (wAsM X.K Wout D i l) (X.pn ++ pins) (fun e s₁ => wpAny (model X.prog X.w) X.A (noteFrame e X.env) (fun _ s₂ => wpAny (model X.prog X.w) X.A (setFlight e none) (fun _ s₃ =>
    wpAny (model X.prog X.w) X.A (handleBy e X.env (eh :: ehs)) (SP X pins D) X.xe s₃) X.xe s₂) X.xe s₁) (fun u s' xx => ?_) PassesOwn.looking).run [] s σ H D (I.toTry _) h) (fun f s1 sp => ?_) (fun e s1 he => he)
  · obtain ⟨a, B, sI, pins', σ', H', cls, d, rfl, J', nb, up, sky, na, os, ag, w⟩ := xx
    have J : Inv X pins σ' H' sI := J'.ofTry ok
    have sky2 : Sky B (X.env :: X.outer) a (Zc cls d) X.env.locals s'.heap := by rw [← stk]; exact sky
    show wpAny (model X.prog X.w) X.A (noteFrame (.ref a) X.env) _ _ _
    refine Sky.land Zc.steady frs_ frm sky2 fun g fl upg => ?_
    have Jg : Inv X pins σ' H' { s' with heap := g } := J.landed nb fl.1 (up.trans upg) os ag
    obtain ⟨og, vg, eg, zg, dg⟩ := fl.there
    have out : a ∉ frs (X.env :: X.outer) := fun hm => by
      obtain ⟨_, o', e', no⟩ := fl.2.2.1.mem hm
      rw [eg] at e'
      cases e'
      exact no _ dg
    have outL : a ≠ X.env.locals := fun z => out (List.mem_filterMap.mpr ⟨X.env, List.mem_cons_self, by rw [frm, z]⟩)
    have outF : a ∉ X.fs := fun hm => by
      obtain ⟨e, he, q⟩ := List.mem_filterMap.mp hm
      exact out (List.mem_filterMap.mpr ⟨e, List.mem_cons_of_mem _ he, q⟩)
    have Sg := Jg.suite eg dg na outL outF
    have go : ∀ {hs' : List ExceptHandler} {l' : List (Value × SuiteT)}, HasOk X n hs' l' → wAsM X.K Wout D i l' cls d σ' H' → wpAny (model X.prog X.w) X.A (handleBy (.ref a) X.env hs') (SP X pins D) X.xe { s' with heap := g } := by
      intro hs' l' hk
      induction hk with
      | nil =>
        intro w
        refine wpAny_handleBy_nil ?_
        obtain ⟨_, _, _, oe, vs, T, oT, ts', he, hz, hd, h1, hr⟩ := id fl
        unfold PySem.passOn
        refine wpAny_bind (wpAny_field he hd h1 ?_)
        rw [if_neg (show ¬ ((Value.ref T == Value.none) = true) from by simp)]
        have last : wpAny (model X.prog X.w) X.A (setFlight (.ref a) X.env.frame) (fun _ s4 => wpAny (model X.prog X.w) X.A (throw (.ref a) : Sem PySem.Flow) (SP X pins D) X.xe s4) X.xe { s' with heap := g } := by
          rw [frm]
          refine HandSPX.setFlight_upZ fl fun g4 hg4 up4 => wpAny_throw (tk _ _ ?_)
          exact ⟨a, B, sI, pins, σ', H', cls, d, rfl, J, nb, (up.trans upg).trans up4, .inr (.inr (by rw [stk]; exact hg4)), na, os, ag, w⟩
        first
          | exact wpAny_bind (wpAny_pure (wpAny_bind last))
          | exact wpAny_bind last
      | @cons x c ts s₀ sr q q' hr lr nm su r ih =>
        intro w
        obtain ⟨b, hb, yes, no⟩ := w
        refine wpAny_handleBy_cons (codeAny_handlers_test ?_) (by intro z; cases z)
        have LT : PySem.W.Looks (model X.prog X.w) g (typeOf (.ref a)) cls := fun A Q E s k q => wpAny_typeOf_ref (k _ _ eg) (by rw [zg.1]; exact q)
        have LM := PySem.W.exm_one (M := model X.prog X.w) (Jg.kIn) LT hb
        have tst : ∀ {Q : Value → Shared → Prop} {E : Value → Shared → Prop}, Q c { s' with heap := g } → wpAny (model X.prog X.w) (X.A.mark (some (.ref a))) (eval (.Name x q) X.env) Q E { s' with heap := g } := fun {Q E} k => by
          obtain ⟨n1, n2, n3 | ⟨n3, n4, n5⟩⟩ := nm
          · exact ld_glob (X := X.suite a ((a, og) :: (X.pn ++ pins))) Sg n1 n3 k n2
          · exact ld_blt (X := X.suite a ((a, og) :: (X.pn ++ pins))) Sg n1 n3 n4 k n5 n2
        refine tst (LM.here ?_)
        cases b with
        | false =>
          show wpAny _ X.A (handleBy (.ref a) X.env hr) _ _ _
          exact ih (no rfl)
        | true =>
          refine codeAny_handlers_suite_as ?_
          refine HandSPX.lands_againZ fl fun g4 fl4 up4 => ?_
          have J4 : Inv X pins σ' H' { s' with heap := g4 } := J.landed nb fl4.1 ((up.trans upg).trans up4) os ag
          obtain ⟨o4, v4, e4, z4, d4⟩ := fl4.there
          have S4 := J4.suite e4 d4 na outL outF
          refine store_ok (X := X.suite a ((a, o4) :: (X.pn ++ pins))) (v := .ref a) S4 nd at_ own rfl (fun s5 S5 => ?_) (.inr lcl)
          refine wpAny_mono ((su a o4 cls d (X.pn ++ pins) z4 ⟨_, d4⟩).run [] s5 _ H' _ S5 (yes rfl a na)) (fun f s6 sp => ?_) (fun _ _ z => False.elim z)
          have goes : ∀ {σ6 : St} {H6 : Hp} {Q : Shared → Prop}, Inv (X.suite a ((a, o4) :: (X.pn ++ pins))) [] σ6 H6 s6 → (∀ s7, Inv X pins (σ6.set i none) H6 s7 → Q s7) →
              wpAny (model X.prog X.w) X.A (do bindName X.env n .none; unbindBehindTheSuite X.env n q') (fun _ s7 => Q s7) X.xe s6 := fun {σ6 H6 Q} S6 k => gone_ok (S6.unsuite ok) nd at_ lcl k
          cases f with
          | next => obtain ⟨_, _, S6, k⟩ := sp; exact goes S6 fun s7 J7 => ⟨_, _, J7, k⟩
          | brk => obtain ⟨_, _, S6, k⟩ := sp; exact goes S6 fun s7 J7 => ⟨_, _, J7, k⟩
          | cont => obtain ⟨_, _, S6, k⟩ := sp; exact goes S6 fun s7 J7 => ⟨_, _, J7, k⟩
          | ret u => obtain ⟨_, _, _, S6, rr, k⟩ := sp; exact goes S6 fun s7 J7 => ⟨_, _, _, J7, rr, k⟩
    exact go hh w
  · cases f with
    | next => obtain ⟨_, _, J', k⟩ := sp; exact wpAny_execs_nil ⟨_, _, J'.ofTry ok, k⟩
    | brk => obtain ⟨_, _, J', k⟩ := sp; exact ⟨_, _, J'.ofTry ok, k⟩
    | cont => obtain ⟨_, _, J', k⟩ := sp; exact ⟨_, _, J'.ofTry ok, k⟩
    | ret u => obtain ⟨_, _, _, J', rr, k⟩ := sp; exact ⟨_, _, _, J'.ofTry ok, rr, k⟩
end
end Pyd
end

section
set_option Elab.async false
set_option linter.all false
set_option maxRecDepth 100000
set_option maxHeartbeats 2000000
/-! PydVA: a lambda with one parameter that has a whole number as default. -/
namespace LamD
open PySem PySem.Spec PyProof.Rows L2 LamX
abbrev dArgs (y : Str) (yp : Pos) (i : Int) (j : Nat) (ep : Pos) : Arguments := ⟨[], [⟨y, none, yp⟩], none, [], [], none, [.Constant (.int i) j ep]⟩
structure LamSD (N : List Str) (y : Str) (sc scope : Scope) : Prop where
  kind : scope.kind = .function
  co : scope.isCoroutine = false
  gen : scope.isGenerator = false
  par : scope.names.lookup y = some .local
  own : ∀ z ∈ scope.names, (z.2 = .local → z.1 ∉ N) ∧ z.2 ≠ .cell
  free : ∀ z ∈ scope.names, z.2 = .free → sc.names.lookup z.1 = some .cell ∨ sc.names.lookup z.1 = some .free
section
variable {X : Cx} {pins : List (Addr × Obj)} {σ : L2.St} {H HZ : Hp} {s s1 : Shared}
theorem LamSD.has {N : List Str} {y : Str} {X : Cx} {scope : Scope} (L : LamSD N y X.env.scope scope) (ok : X.Ok) : ∀ y ∈ scope.names, y.2 = .free → ∃ c, X.env.cells.lookup y.1 = some c := fun y hy e => by
  rcases L.free y hy e with k | k
  · exact ok.has _ (.inl k)
  · exact ok.has _ (.inr k)
theorem make {T : List (Addr × Str)} {c P : Addr} {y : Str} {yp ep : Pos} {i : Int} {j : Nat} {body : Expr} {scope : Scope} {pos : Pos} {E : Value → Shared → Prop} {Q : Value → Shared → Prop} (I : Inv X pins σ H s) (TB : TabB X.base X.mg c P) (hcode : X.env.code = .ref c)
    (hm : (P, X.env.qual ++ "<lambda>") ∈ T) (hu : ∀ p ∈ T, p.1 = P → p.2 = X.env.qual ++ "<lambda>") (hT : Tabs T H) (hfree : ∀ y ∈ scope.names, y.2 = .free → ∃ c, X.env.cells.lookup y.1 = some c)
    (h : ∀ (f t c' : Addr) (u pm ctv doc : Value) (H1 : Hp) (s' : Shared), Inv X pins σ H1 s' → ExtN H H1 → Tabs T H1 →
      s'.heap.get? f = some (PySem.W.kdv_obj "<lambda>" (X.env.qual ++ "<lambda>") (dArgs y yp i j ep) (.expr body) scope (cloFrom X.env.cells scope.names []) (.ref t) doc pm c' ctv) → H1 f = none → f ∉ frs X.stack →
      s'.heap.get? t = some (PySem.W.kdv_tup [u]) → H1 t = none → t ∉ frs X.stack → H1 c' = some (CodeO c' (X.env.qual ++ "<lambda>")) → Q (.ref f) s') :
    wpAny (model X.prog X.w) X.A (eval (.Lambda (dArgs y yp i j ep) body scope pos) X.env) Q E s := by
  obtain ⟨ps, hP, ht, ha⟩ := hT _ hm
  refine PySem.W.kdv_lam rfl rfl ?_
  refine PySem.W.kdv_all1 (wpAny_Constant_int (PySem.W.kdv_all0 ?_))
  rw [makeFunction_eq]
  simp only [List.zip_nil_right, List.filterMap_nil, List.isEmpty_nil, List.isEmpty_cons, if_true, pure_bind, Bool.false_eq_true, if_false]
  refine wpAny_bind (wpAny_newTextTuple ?_)
  have nofr : ∀ f, s.heap.objs.size ≤ f → f ∉ frs X.stack := fun f hf z => by
    rcases List.mem_cons.mp (I.stkSub _ z) with e | e
    · have h1 := I.lt
      rw [← e] at h1
      exact Nat.lt_irrefl _ (Nat.lt_of_lt_of_le h1 hf)
    · exact I.nofs hf e
  have mid : ∀ (u : Value) (tk : Tok), wpAny (model X.prog X.w) X.A (makeTail "<lambda>" (X.env.qual ++ "<lambda>") (dArgs y yp i j ep) (.expr body) scope X.env (.ref s.heap.objs.size) .none none pos pos.line) Q E { s with heap := s.heap.push (PySem.W.kdv_tup [u]), toks := tk } := by
    intro u tk
    have I2 : Inv X pins σ H { s with heap := s.heap.push (PySem.W.kdv_tup [u]), toks := tk } := I.kept fun b o e => Heap.get?_push_of_some _ e
    have szT : (s.heap.push (PySem.W.kdv_tup [u])).objs.size = s.heap.objs.size + 1 := Heap.size_push _ _
    have bP : (s.heap.push (PySem.W.kdv_tup [u])).BuiltinsAt X.mg P := TB.bm.keeps I2.bk
    have hP' : (s.heap.push (PySem.W.kdv_tup [u])).get? P = some { cls := .none, data := .fields ps } := I2.hok P _ hP
    have hT' : (s.heap.push (PySem.W.kdv_tup [u])).get? s.heap.objs.size = some (PySem.W.kdv_tup [u]) := Heap.get?_push_size _ rfl
    have nT : H s.heap.objs.size = none := I.hok.fresh (Nat.le_refl _)
    have tP : s.heap.objs.size ≠ P := fun z => by rw [← z, nT] at hP; cases hP
    cases hc : codeAmong pos ps.toList with
    | none =>
      refine PySem.W.kdv_makeTail (mg := X.mg) (c := c) (P := P) (ps := ps) (closure_ok hfree) I2.ok.glob (I2.mod.glob.keeps I2.bk) hcode (TB.code.keeps I2.bk) hP' ht hc TB.gP bP fun c' ctv doc h' tk hx hge hlt hrec htb => ?_
      obtain ⟨c2, oc, vs, t, e2, hoc, hd, hv⟩ := hrec
      cases e2
      have hsz : (s.heap.push (PySem.W.kdv_tup [u])).objs.size ≤ h'.objs.size := Nat.le_trans hge (Nat.le_of_lt hlt)
      have nC : H c' = none := I2.hok.fresh hge
      have hle : s.heap.objs.size ≤ h'.objs.size := Nat.le_trans (by omega) hsz
      have I1 := inv_table (t' := tk) (more := #[rawInt pos.line, rawInt pos.col, .ref c']) (h' := h'.push (PySem.W.kdv_obj "<lambda>" (X.env.qual ++ "<lambda>") (dArgs y yp i j ep) (.expr body) scope (cloFrom X.env.cells scope.names []) (.ref s.heap.objs.size) doc ((X.mg "__name__").getD .none) c' ctv)) I2 hP
        (fun b o hb e => Heap.get?_push_of_some _ (hx b o hb e)) (Heap.get?_push_of_some _ htb) hge ⟨oc, vs, t, Heap.get?_push_of_some _ hoc, hd, hv⟩
      have hE : ExtN H (upd (upd H P (.tbl (ps ++ #[rawInt pos.line, rawInt pos.col, .ref c']))) c' (CodeO c' (X.env.qual ++ "<lambda>"))) := fun b o e n => by
        rw [upd_ne (ne_of_none e nC), upd_ne (fun z => n ps (Option.some.inj (e.symm.trans (by rw [z]; exact hP))))]
        exact e
      have eL : (ps ++ #[rawInt pos.line, rawInt pos.col, .ref c']).toList = ps.toList ++ [rawInt pos.line, rawInt pos.col, .ref c'] := by simp
      have tc : s.heap.objs.size ≠ c' := fun z => by
        have := hge
        rw [← z] at this
        rw [szT] at this
        omega
      refine h h'.objs.size s.heap.objs.size c' u ((X.mg "__name__").getD .none) ctv doc _ _ I1 hE (fun p hp => ?_) (Heap.get?_push_size _ rfl) ?_ (nofr _ hle) (Heap.get?_push_of_some _ (hx _ _ tP hT')) (by rw [upd_ne tc, upd_ne tP]; exact nT) (nofr _ (Nat.le_refl _)) upd_same
      · by_cases hb : p.1 = P
        · rw [hu p hp hb, hb]
          refine ⟨_, by rw [upd_ne (ne_of_none hP nC), upd_same], by rw [eL]; exact PySem.TriplesOk_snoc _ _ _ _ ht, fun p' cv hcv => ?_⟩
          rw [eL] at hcv
          rcases among_app _ ht hcv with z | z
          · obtain ⟨c0, e1, e2⟩ := ha p' cv z
            exact ⟨c0, e1, hE _ _ e2 codeO_ne⟩
          · exact ⟨c', z, upd_same⟩
        · obtain ⟨ps', a1, a2, a3⟩ := hT p hp
          refine ⟨ps', by rw [upd_ne (ne_of_none a1 nC), upd_ne hb]; exact a1, a2, fun p' cv hcv => ?_⟩
          obtain ⟨c0, e1, e2⟩ := a3 p' cv hcv
          exact ⟨c0, e1, hE _ _ e2 codeO_ne⟩
      · have n1 : h'.objs.size ≠ c' := Nat.ne_of_gt hlt
        have n2 : h'.objs.size ≠ P := Nat.ne_of_gt (Nat.lt_of_lt_of_le (Heap.lt_size hP') hsz)
        rw [upd_ne n1, upd_ne n2]
        exact I2.hok.fresh hsz
    | some cv =>
      obtain ⟨c', e, hco⟩ := ha pos cv hc
      subst e
      refine PySem.W.kdv_makeTailHit (mg := X.mg) (c := c) (P := P) (ps := ps) (closure_ok hfree) I2.ok.glob (I2.mod.glob.keeps I2.bk) hcode (TB.code.keeps I2.bk) hP' ht hc bP fun ctv doc h' tk hx hsz => ?_
      have hle : s.heap.objs.size ≤ h'.objs.size := Nat.le_trans (by omega) (show (s.heap.push (PySem.W.kdv_tup [u])).objs.size ≤ h'.objs.size from hsz)
      have I1 : Inv X pins σ H { s with heap := h'.push (PySem.W.kdv_obj "<lambda>" (X.env.qual ++ "<lambda>") (dArgs y yp i j ep) (.expr body) scope (cloFrom X.env.cells scope.names []) (.ref s.heap.objs.size) doc ((X.mg "__name__").getD .none) c' ctv), toks := tk } := I2.kept fun b o e => Heap.get?_push_of_some _ (hx b o e)
      exact h h'.objs.size s.heap.objs.size c' u ((X.mg "__name__").getD .none) ctv doc H _ I1 (ExtN.refl H) hT (Heap.get?_push_size _ rfl) (I2.hok.fresh hsz) (nofr _ hle) (Heap.get?_push_of_some _ (hx _ _ hT')) nT (nofr _ (Nat.le_refl _)) hco
  exact mid _ _
theorem start {A : Around} {outer : List Env} {E : XK} {scope : Scope} {f c' : Addr} {h₁ : Heap} {tk : Nat} {y : Str} {u : Value} (I : Inv X pins σ H s) (L : LamSD X.N y X.env.scope scope) (e0 : Env0 X.prog X.w X.K X.mg X.base A outer s1 HZ) (hd : A.handled = none)
    (un : Un (frs X.stack) [] H HZ s.heap s1.heap) (hns : h₁.Ns s1.heap.objs.size fun z => [(y, u)].reverse.lookup z) (kp : ∀ b o, s1.heap.get? b = some o → h₁.get? b = some o) :
    Inv (LamX.lamCx X A outer s1 HZ E scope f c') [] σ HZ { s1 with heap := h₁, toks := tk } := by
  have hfree := L.has I.ok
  have cm : ∀ {y c}, (cloFrom X.env.cells scope.names []).lookup y = some c → X.env.cells.lookup y = some c := fun {y c} e => by
    rcases cloFrom_mem (PySem.mem_of_lookup e) with hm | ⟨h1, h2⟩
    · cases hm
    · obtain ⟨c1, hc⟩ := hfree _ h1 rfl
      have hc : X.env.cells.lookup y = some c1 := hc
      have e2 : c = c1 := by
        rw [h2, hc] <;> rfl
      rw [e2]
      exact hc
  have look : ∀ {y}, scope.names.lookup y = some .free → ∃ c, (cloFrom X.env.cells scope.names []).lookup y = some c := fun {y} hl => by
    have hy : (y, NameKind.free) ∈ scope.names := PySem.mem_of_lookup hl
    exact mem_lookup (cloFrom_has (cells := X.env.cells) (acc := []) hy)
  have cellK : ∀ {c : Addr} {v : Option Value}, H c = none → s.heap.IsCell c v → h₁.IsCell c v := fun {c v} n ⟨o, ho, hd⟩ => by
    obtain ⟨sl, q⟩ := un.any ho n (by simp)
    exact ⟨_, kp _ _ q, hd⟩
  have noA : ∀ b : Addr, b ∉ (LamX.lamCx X A outer s1 HZ E scope f c').ex := fun b z => absurd (show b ∈ ([] : List Addr) from z) (by simp)
  refine ⟨⟨e0.mod, L.kind, rfl, rfl, Nat.le_refl _, fun y z c e1 e2 => I.ok.inj y z c (cm e1) (cm e2), fun y hy => ?_, fun y c z _ => ?_, fun _ => hd, Around.frames_deeper e0.frames, .inr ⟨rfl, rfl⟩, fun b z => absurd z (noA b), e0.bs, e0.bsz, fun b _ _ => noA b,
      fun b z => absurd z (noA b), e0.funs, e0.frf⟩,
    rfl, e0.bare, Un.kept kp, ⟨_, hns, fun i y v e1 e2 e3 => ?_⟩, fun y c e => ?_, e0.hok.fresh (Nat.le_refl _), fun y c e => ?_, fun q hq => absurd (show q ∈ ([] : List (Addr × Obj)) ++ [] from hq) (by simp), e0.hok.kept kp, I.len⟩
  · have hy : scope.names.lookup y = some .cell ∨ scope.names.lookup y = some .free := hy
    rcases hy with hy | hy
    · exact absurd rfl (L.own _ (PySem.mem_of_lookup hy)).2
    · exact look hy
  · have z : false = true := z
    cases z
  · have e3 : Vis scope y := e3
    rcases e3 with k | k | k
    · exact absurd (List.mem_of_getElem? (show X.N[i]? = some y from e1)) ((L.own _ (PySem.mem_of_lookup k)).1 rfl)
    · exact absurd rfl (L.own _ (PySem.mem_of_lookup k)).2
    · obtain ⟨m, hn, hl⟩ := I.loc
      have hvis : Vis X.env.scope y := (L.free _ (PySem.mem_of_lookup k) rfl).elim (fun k => .inr (.inl k)) (fun k => .inr (.inr k))
      obtain ⟨w', r, q⟩ := hl i y v e1 e2 hvis
      obtain ⟨c2, h2⟩ := look k
      refine ⟨w', r, .inr ⟨.inr k, c2, h2, ?_⟩⟩
      have c1 := cm h2
      rcases q with ⟨k', _⟩ | ⟨_, c3, e', z⟩
      · have k' : X.env.scope.names.lookup y = some .local := k'
        rcases L.free _ (PySem.mem_of_lookup k) rfl with k2 | k2 <;> rw [show X.env.scope.names.lookup y = _ from k2] at k' <;> cases k'
      · rw [c1] at e'
        cases e'
        exact cellK (I.freeC y _ c1) z
  · obtain ⟨w', z⟩ := I.cell y c (cm e)
    exact ⟨w', cellK (I.freeC y c (cm e)) z⟩
  · obtain ⟨v, o, ho, hd⟩ := I.cell y c (cm e)
    exact un.free c o ho (I.freeC y c (cm e)) (by simp)
/-- the default is bound -/
theorem bind_def {s : Shared} {q : Str} {y : Str} {yp ep : Pos} {i : Int} {j : Nat} {body : Expr} {scope : Scope} {cl : List (Str × Addr)} {t : Addr} {u doc pm cv ctv : Value} (ht : s.heap.get? t = some (PySem.W.kdv_tup [u])) :
    BindsTo s (PySem.W.kdv_fn "<lambda>" q (dArgs y yp i j ep) (.expr body) scope cl (.ref t) doc pm cv ctv) ⟨[], []⟩ [(y, u)] := by
  refine BindsTo.of_defaults rfl ht rfl (show bindArgs _ _ = _ from rfl) ?_
  simp [List.lookup, List.zip, List.zipWith, List.drop, List.take]
/-- x(), in the def that got the lambda: Z is that def's context, entered at s -/
theorem act {CXg : CXT} {Eg : XK} {Ng : List Str} {qg : Str} {sg : Scope} {g f t c' : Addr} {cdg pm ctv u doc : Value} {y : Str} {yp ep : Pos} {ii : Int} {jj : Nat} {body : Expr} {scope : Scope} {k i : Nat} {a : Str} {pn : List (Addr × Obj)} {xe : Value → Shared → Prop} {W : WX} {E : XK} {tb : TE} {p1 p2 : Pos}
    (I : Inv X pins σ H s) (L : LamSD X.N y X.env.scope scope) (hf : s.heap.get? f = some (PySem.W.kdv_obj "<lambda>" (X.env.qual ++ "<lambda>") (dArgs y yp ii jj ep) (.expr body) scope (cloFrom X.env.cells scope.names []) (.ref t) doc pm c' ctv)) (hfn : H f = none) (hfr : f ∉ frs X.stack)
    (ht : s.heap.get? t = some (PySem.W.kdv_tup [u])) (htn : H t = none) (htr : t ∉ frs X.stack)
    (tk : Takes ((cxOf CXg X.prog X.w X.K X.mg X.base Ng qg sg g cdg X.A X.stack s H Eg).tr pn xe) W) (hW : ∀ cls d σ' H', E cls d H' → W cls d σ' H') (hr : Room (k + 1) (X.A.deeper (envOfC qg sg s.heap.objs.size g cdg)))
    (hbody : ∀ (A : Around) (outer : List Env) (s : Shared) (H : Hp), Room k (A.deeper (lamEnv X scope s.heap.objs.size f c')) → PE (LamX.lamCx X A outer s H E scope f c') body tb)
    (hN : Ng[i]? = some a) (hv : Vis sg a) (hd : (a == ("__debug__" : Str)) = false := by decide) (hcd : (a == ("__classdict__" : Str)) = false := by decide) :
    PE ((cxOf CXg X.prog X.w X.K X.mg X.base Ng qg sg g cdg X.A X.stack s H Eg).tr pn xe) (.Call (.Name a p1) [] [] p2)
      (fun σZ HZ Q => σZ[i]? = some (some (.ref f)) ∧ HZ c' = some (CodeO c' (X.env.qual ++ "<lambda>")) ∧ tb σ HZ Q) := by
  refine ⟨fun pinsZ sZ σZ HZ Q IZ h => ?_⟩
  obtain ⟨hs, hc, ht2⟩ := h
  refine wpAny_Call_Name_kw (thn ((pe_var (pos := p1) (i := i) hN hv hd hcd).run pinsZ sZ σZ HZ (fun v H1 => v = .ref f ∧ H1 = HZ) IZ ⟨.ref f, hs, rfl, rfl⟩) fun u1 s1 ⟨v, H1, I1, r1, q1⟩ => ?_)
  obtain ⟨ev, eH⟩ := q1
  subst ev
  rw [eH] at I1
  obtain rfl : u1 = Value.ref f := r1
  have of1 : s1.heap.get? f = some (PySem.W.kdv_obj "<lambda>" (X.env.qual ++ "<lambda>") (dArgs y yp ii jj ep) (.expr body) scope (cloFrom X.env.cells scope.names []) (.ref t) doc pm c' ctv) := I1.base.keep f _ hf hfn hfr (fun z => nomatch (show f ∈ ([] : List Addr) from z))
  have ot1 : s1.heap.get? t = some (PySem.W.kdv_tup [u]) := I1.base.keep t _ ht htn htr (fun z => nomatch (show t ∈ ([] : List Addr) from z))
  refine PySem.W.callWith_F0 ⟨_, _, _, _, of1⟩ ?_
  have un : Un (frs X.stack) [] H HZ s.heap s1.heap := I1.base
  obtain ⟨⟨oc, vs, tq, hoc, hdc, hvc⟩, _, _⟩ := I1.hok c' _ hc
  have rc : codeAny (model X.prog X.w) (X.A.deeper (envOfC qg sg s.heap.objs.size g cdg)) (.call (.ref f) ⟨[], []⟩) (CR (L2.CX X.prog X.w) (envOfC qg sg s.heap.objs.size g cdg :: X.stack) X.prog X.w HZ s1 Q E) s1 := by
    refine PySem.W.kla_callFunE hr.depth of1 rfl L.co L.gen rfl ⟨c', oc, vs, tq, rfl, hoc, hdc, hvc⟩ ?_
    refine bind_def ot1 _ _ _ _ ?_
    refine (wpAny_newFunctionEnv (fun z hz => (L.own z hz).2) (fun z hz => ?_) (fun h₁ hns hsb => ⟨I1.nolimit.fresh _ hsb, ?_⟩) L.kind)
    · rw [List.mem_singleton.mp hz]
      exact L.par
    show codeAny _ _ (.expr body (lamEnv X scope s1.heap.objs.size f c')) _ _
    have kp : ∀ b o, s1.heap.get? b = some o → h₁.get? b = some o := fun b o e => hsb.extBut b o (Nat.ne_of_lt (Heap.lt_size e)) (Heap.get?_push_of_some _ e)
    have J : Inv (LamX.lamCx X (X.A.deeper (envOfC qg sg s.heap.objs.size g cdg)) (envOfC qg sg s.heap.objs.size g cdg :: X.stack) s1 HZ E scope f c') [] σ HZ { s1 with heap := h₁, toks := s1.toks + [(y, u)].length } :=
      start I L I1.env0 hr.hd un hns kp
    refine PySem.W.kla_codeExpr (wpAny_mono ((hbody _ _ s1 HZ (hr.deeper _)).run [] _ _ HZ Q J ht2) (fun v s' hq => ?_) fun e s' hq => hq)
    obtain ⟨w', H', J', rv, q⟩ := hq
    exact ⟨w', H', J'.os, J'.bare, J'.base, J'.hok, rv, q⟩
  have hx : Passes (L2.CX X.prog X.w) ((cxOf CXg X.prog X.w X.K X.mg X.base Ng qg sg g cdg X.A X.stack s H Eg).tr pn xe) E := passes_call tk hW
  refine wpAny_call (codeAny_mono rc fun r s' hq => ?_)
  cases r with
  | error e => exact hx pinsZ σZ HZ s1 e s' I1 hq
  | ok fl =>
    cases fl with
    | ret u => exact I1.after hq
    | next => exact False.elim hq
    | brk => exact False.elim hq
    | cont => exact False.elim hq
/-- x(lambda y=i: body) -/
theorem lamcall {T : List (Addr × Str)} {TT : (XK → Hp → VK → Prop) → Hp → VK → Prop} {x a : Str} {g c P : Addr} {k : Nat} {pg : Arguments} {bg : List Stmt} {sg : Scope} {dV kV doc pm cdv ct oc : Value} {an od : Option Addr} {osl : Array (Option Value)} {Ng : List Str}
    {y : Str} {yp ep : Pos} {ii : Int} {jj : Nat} {body : Expr} {scope : Scope} {t : XK → TE} {p lpos pos : Pos} (hg : Gl X x) (hm : X.mg x = some (.ref g)) (hk : PySem.W.keepIn X.K (.ref g) = true)
    (lk : X.K.lookup g = some ⟨oc, od, .func (PySem.W.fnOf x x pg bg sg dV kV doc pm an cdv ct), osl⟩) (hcg : PySem.W.codeIn X.K cdv x = true) (hb : L2.Binds X.K (PySem.W.fnOf x x pg bg sg dV kV doc pm an cdv ct) [a] []) (Sg : FnScope Ng [a] sg) (hNg : Ng[0]? = some a) (hva : Vis sg a)
    (hG : GivesTo X Ng x sg g cdv bg a (X.env.qual ++ "<lambda>") TT)
    (TB : TabB X.base X.mg c P) (hcode : X.env.code = .ref c) (hmT : (P, X.env.qual ++ "<lambda>") ∈ T) (hu : ∀ p ∈ T, p.1 = P → p.2 = X.env.qual ++ "<lambda>") (hr : Room (k + 2) X.A) (L : LamSD X.N y X.env.scope scope)
    (hbody : ∀ (A : Around) (outer : List Env) (s : Shared) (H : Hp) (E : XK) (f c' : Addr), Room k (A.deeper (lamEnv X scope s.heap.objs.size f c')) → PE (LamX.lamCx X A outer s H E scope f c') body (t E))
    (hdb : (x == ("__debug__" : Str)) = false := by decide) (hd : (a == ("__debug__" : Str)) = false := by decide) (hcd : (a == ("__classdict__" : Str)) = false := by decide) :
    PE X (.Call (.Name x p) [.Lambda (dArgs y yp ii jj ep) body scope lpos] [] pos) (tLam T TT t) := by
  refine ⟨fun pins s σ H Q I h => ?_⟩
  obtain ⟨hT, h⟩ := h
  refine wpAny_Call_Name_kw (ld_glob I hg hm ?_ hdb)
  refine PySem.W.callWith_K (h₀ := X.base) I.ok.mod.kin hk ?_ (by rfl) (by rfl)
  show wpAny _ _ (spliced ((false, eval (.Lambda (dArgs y yp ii jj ep) body scope lpos) X.env) :: backTo pos (starEach [] X.env))) _ _ s
  refine Calls.spliced_cons (make I TB hcode hmT hu hT (L.has I.ok) fun f t' c' u pm' ctv doc' H1 s' I1 eN T1 hf hfn hfr ht htn htr hco => ?_)
  refine Calls.spliced_nil ⟨I1.kIn, ?_⟩
  have rc : codeAny (model X.prog X.w) X.A (.call (.ref g) ⟨[.ref f], []⟩) (CR C8.CX0 X.stack X.prog X.w H1 s' Q C8.E0) s' := by
    refine run_ofS (N := Ng) (ps := [a]) (us := [.ref f]) (vs := [.ref f]) lk hcg Sg hr I1.env0 (hb s' [.ref f] I1.kIn rfl) (.cons rfl .nil) rfl fun hr' => ?_
    obtain ⟨t', ht', hq'⟩ := hG f c' s' H1 Q (fun E H' Q' => t E σ H' Q') (fun W pn xe E p1 p2 tk hW => act (i := 0) I1 L hf hfn hfr ht htn htr tk hW hr' (fun A outer s H hr2 => hbody A outer s H E f c' hr2) hNg hva hd hcd) hco (h H1 eN T1)
    exact ⟨t', ht'.nox, hq'⟩
  refine wpAny_call (codeAny_mono rc fun r s2 hq => ?_)
  cases r with
  | error e => exact (show False from hq).elim
  | ok fl =>
    cases fl with
    | ret u => exact I1.after hq
    | next => exact False.elim hq
    | brk => exact False.elim hq
    | cont => exact False.elim hq
end
end LamD
end

section
set_option Elab.async false
set_option linter.all false
set_option maxRecDepth 100000
set_option maxHeartbeats 4000000
/-! Pyd, part W: helpers that are handed a lambda; all defs of a program. -/
namespace Pyd
open PySem PySem.Spec L2
open PyProof.Rows hiding St
/-- data that is the same in every heap -/
def CR (S : Sx) (d : D) (u : V) : Prop := ∀ F H, rep S F H d u
def Ext (H H' : Hp) : Prop := ∀ b o, H b = some o → H' b = some o
/-- what a helper makes of the lambda's end -/
def TTw (S : Sx) (wh : WordH) : (XK → Hp → VK → Prop) → Hp → VK → Prop := fun tl H Q => LamX.Tabs S.T H ∧ ∃ (E : XK) (Qv : VK), tl E H Qv ∧ (∀ v H', Qv v H' → LamX.Tabs S.T H' ∧ ∀ u H'', LamX.ExtN H' H'' → LamX.Tabs S.T H'' → CR S wh.ok u → Q u H'') ∧
  ∀ cls d H', E cls d H' → ∃ c x dd F, wh.exc c x = some dd ∧ ExcR S F H' c x cls d ∧ LamX.Tabs S.T H' ∧ ∀ u H'', LamX.ExtN H' H'' → LamX.Tabs S.T H'' → CR S dd u → Q u H''
/-- its results are the same in every heap -/
def WordFlat (S : Sx) (wh : WordH) : Prop := (∃ u, CR S wh.ok u) ∧ ∀ c x d, wh.exc c x = some d → ∃ u, CR S d u
structure LamCode (S : Sx) (base : Heap) (mg : Str → Option Value) (qual : Str) (cdv : Value) : Prop where
  ex : ∃ c Pt, cdv = .ref c ∧ LamX.TabB base mg c Pt ∧ (Pt, qual ++ "<lambda>") ∈ S.T ∧ ∀ p ∈ S.T, p.1 = Pt → p.2 = qual ++ "<lambda>"
structure WordAt (S : Sx) (prog : Program) (w : World) (base : Heap) (mg : Str → Option Value) (x : Str) (wh : WordH) : Prop where
  ex : ∃ (g : Addr) (pg : Arguments) (bg : List Stmt) (sg : Scope) (dV kV doc pm cdv ct oc : Value) (an od : Option Addr) (osl : Array (Option Value)) (Ng : List Str) (a : Str), mg x = some (.ref g) ∧ PySem.W.keepIn S.K (.ref g) = true ∧
    S.K.lookup g = some ⟨oc, od, .func (PySem.W.fnOf x x pg bg sg dV kV doc pm an cdv ct), osl⟩ ∧ PySem.W.codeIn S.K cdv x = true ∧ Binds S.K (PySem.W.fnOf x x pg bg sg dV kV doc pm an cdv ct) [a] [] ∧ FnScope Ng [a] sg ∧ Ng[0]? = some a ∧ Vis sg a ∧
      (a == ("__debug__" : Str)) = false ∧ (a == ("__classdict__" : Str)) = false ∧ ∀ (X : Cx) (q : Str), X.prog = prog → X.w = w → X.K = S.K → X.mg = mg → X.base = base → Room 2 X.A → LamX.GivesTo X Ng x sg g cdv bg a q (TTw S wh)
section
variable {S : Sx} {C : Cfg} {X : Cx} {W : WX} {sc : Scope} {n : Nat}
theorem post_ext {σ : St} {F : Fz} {ρ : List Sl} {H H1 : Hp} (R : SRep S F σ ρ H) (e : LamX.ExtN H H1) (t : LamX.Tabs S.T H1) : Post S F σ ρ H F σ ρ H1 := by
  have kl : ∀ a vs, H a = some (.lst vs) → H1 a = some (.lst vs) := fun a vs h => e a _ h fun ps z => nomatch z
  have kp : Kp F H F H1 := ⟨fun a ob u h => e a _ h (fun ps z => nomatch z), fun _ f => f, fun a o f h => e a o h fun ps z => by
    subst z
    rcases R.fz a f with ⟨vs, q⟩ | q <;> rw [h] at q <;> cases q⟩
  refine ⟨⟨fun a o h nt _ => e a o h nt, fun _ f => f, fun _ f => .inl f, fun a nn o h => ?_⟩, ⟨R.len, fun i s hs => slot_mono kp hs (R.all i s hs) (fun a oa => (R.oa oa).1) (fun a u oa h => ?_), R.inj, fun a f => ?_, t⟩, fun _ h => .inl h, fun i o h => ⟨o, h, rfl⟩⟩
  · by_cases nt : ∀ ps, o ≠ .tbl ps
    · exact (nn.no (e a o h nt) nt).elim
    · cases o <;> first | exact ⟨_, rfl⟩ | exact absurd (fun ps z => nomatch z) nt
  · obtain ⟨_, vs, q⟩ := R.oa oa
    rw [h] at q
    cases q
    exact kl a vs h
  · rcases R.fz a f with ⟨vs, q⟩ | q
    · exact .inl ⟨vs, kl a vs q⟩
    · exact .inr (e a _ q fun ps z => nomatch z)
theorem ext_post {σ : St} {F : Fz} {ρ : List Sl} {H H1 : Hp} (R : SRep S F σ ρ H) (e : Ext H H1) : Post S F σ ρ H F σ ρ H1 := post_ext R (LamX.ExtN.of e) (R.tabs.ext e)
/-- x(lambda: body) -/
theorem word_run {wh : WordH} {m : M Rv} {σ : St} {H : Hp} {Q : VK} (h : tE S W (lamM wh m) σ H Q) : LamX.tLam S.T (TTw S wh) (fun E => tE S (fun c d _ H => E c d H) m) σ H Q := by
  obtain ⟨F, ρ, R, w⟩ := h
  refine ⟨R.tabs, fun H1 eN t1 => ?_⟩
  have P1 := post_ext R eN t1
  refine ⟨t1, fun cls d H' => ∃ c x dd F, wh.exc c x = some dd ∧ ExcR S F H' c x cls d ∧ LamX.Tabs S.T H' ∧ ∀ u H'', LamX.ExtN H' H'' → LamX.Tabs S.T H'' → CR S dd u → Q u H'', fun v H' => LamX.Tabs S.T H' ∧ ∀ u H'', LamX.ExtN H' H'' → LamX.Tabs S.T H'' → CR S wh.ok u → Q u H'', ⟨F, ρ, P1.rep, ?_⟩, fun v H' q => q, fun cls d H' q => q⟩
  unfold lamM at w
  cases e : m ρ with
  | bad => rw [e] at w; exact w.elim
  | ok r ρ' =>
    rw [e] at w
    exact fun F' H' P v rv nv => ⟨P.rep.tabs, fun u H'' ex tt cr => w F' H'' ((P1.trans P).trans (post_ext P.rep ex tt)) u (cr F' H'') trivial⟩
  | exc c x ρ' =>
    rw [e] at w
    simp only at w
    intro F' H' cls d P hx
    cases hd : wh.exc c x with
    | none => rw [hd] at w; exact w.elim
    | some dd =>
      rw [hd] at w
      exact ⟨c, x, dd, F', hd, hx, P.rep.tabs, fun u H'' ex tt cr => w F' H'' ((P1.trans P).trans (post_ext P.rep ex tt)) u (cr F' H'') trivial⟩
theorem room_line {k : Nat} {A : Around} (r : Room k A) : A.units + 64 < cLine := by
  have := r.un
  omega
theorem lamOk_by {N : List Str} {ps : Arguments} {sc scope : Scope} (h : lamOk N ps sc scope = true) : (ps = ⟨[], [], none, [], [], none, []⟩ ∧ LamX.LamS sc scope) ∨
    (∃ y yp i j ep, ps = LamD.dArgs y yp i j ep ∧ LamD.LamSD N y sc scope) := by
  unfold lamOk at h
  split at h
  · exact .inl ⟨rfl, LamX.lamS_by h⟩
  · rename_i y yp i j ep
    refine .inr ⟨y, yp, i, j, ep, rfl, ?_⟩
    unfold lamSD at h
    simp only [Bool.and_eq_true, Bool.or_eq_true, Bool.not_eq_true', decide_eq_true_eq, decide_eq_false_iff_not, List.all_eq_true] at h
    obtain ⟨⟨⟨⟨h1, h2⟩, h3⟩, h5⟩, h4⟩ := h
    refine ⟨h1, h2, h3, h5, fun z hz => ⟨fun e => ?_, (h4 z hz).1.2⟩, fun z hz e => ?_⟩
    · rcases (h4 z hz).1.1 with q | q
      · exact absurd e q
      · simpa using q
    · rcases (h4 z hz).2 with (q | q) | q
      · exact absurd e q
      · exact .inl q
      · exact .inr q
  · cases h
/-- the context of a lambda's body -/
theorem lam_ok (hsu : C.su = false) (o : Ok0 S C X W sc n) (hs : X.env.scope = sc) {scope : Scope} (L : ∀ z ∈ scope.names, z.2 ≠ .cell) {A : Around} {outer : List Env} {s : Shared} {H : Hp} {E : XK} {f c' : Addr} (hr : Room n (A.deeper (LamX.lamEnv X scope s.heap.objs.size f c'))) :
    Ok0 S C (LamX.lamCx X A outer s H E scope f c') (fun c d _ H => E c d H) scope n where
  k := o.k
  N := o.N
  nd := o.nd
  calm := fun _ => rfl
  tk := takes_of rfl rfl rfl rfl
  room := fun _ => hr
  line := room_line hr
  sr := fun x k h => by
    have mem : ∀ {names : List (Str × NameKind)} {k : NameKind}, names.lookup x = some k → (x, k) ∈ names := fun {names k} h => by
      induction names with
      | nil => cases h
      | cons p r ih =>
        obtain ⟨y, k'⟩ := p
        rw [List.lookup_cons] at h
        split at h
        · rename_i hb
          cases h
          have e : x = y := by simpa using hb
          subst e
          exact List.mem_cons_self
        · exact List.mem_cons_of_mem _ (ih h)
    have hm := mem h
    have e : (LamX.lamCx X A outer s H E scope f c').env.scope = scope := rfl
    rw [e]
    exact ⟨fun z => z ▸ h, fun z => absurd z (L _ hm), fun z => .inr (z ▸ h), fun z => z ▸ h⟩
  gb := fun x g h => gb_move hsu (X := X) (X' := LamX.lamCx X A outer s H E scope f c') rfl rfl rfl rfl rfl (o.gb x g h)
theorem lamF_ok (hsu : C.su = false) (o : Ok0 S C X W sc n) (hs : X.env.scope = sc) (hw : ∀ x k, C.glob x = some (.word k) → WordAt S X.prog X.w X.base X.mg x (C.words k)) {cdv : Value} (hcd : X.env.code = cdv) (hl : LamCode S X.base X.mg X.env.qual cdv) (hr : Room (n + 2) X.A) : LamF S C X W sc n := by
  intro x k ps body scope lp p pos m hx hb hbody
  have gx : C.glob x = some (.word k) := by
    unfold globOf at hx
    split at hx
    · split at hx
      · cases hx
      · exact hx
    · cases hx
  obtain ⟨gl, _, nd, _⟩ := glob_at o hx
  obtain ⟨g, pg, bg, sg, dV, kV, doc, pm, cv, ct, oc, an, od, osl, Ng, a, hm, hk, lk, hcg, hbi, hsc, hNg, hva, hda, hca, hG⟩ := (hw x k gx).ex
  obtain ⟨c, Pt, rfl, TB, hT, hu⟩ := hl.ex
  rcases lamOk_by hb with ⟨pe, L⟩ | ⟨y, yp, ii, jj, ep, pe, L⟩
  · subst pe
    refine PE.sub (LamX.pe_lamcall (T := S.T) (TT := TTw S (C.words k)) (t := fun E => tE S (fun c d _ H => E c d H) m) gl hm (by rw [o.k]; exact hk) (by rw [o.k]; exact lk) (by rw [o.k]; exact hcg) (by rw [o.k]; exact hbi) hsc hNg hva (hG X _ rfl rfl o.k rfl rfl (hr.mono (by omega))) TB hcd hT hu hr (by rw [hs]; exact L) rfl (fun q cl pm cv ctv => rfl)
      (fun A outer s H E f c' hr' => hbody _ _ (lam_ok hsu o hs (fun z hz => (L.own z hz).2) hr')) nd hda hca) fun σ H Q w => word_run w
  · subst pe
    refine PE.sub (LamD.lamcall (T := S.T) (TT := TTw S (C.words k)) (t := fun E => tE S (fun c d _ H => E c d H) m) gl hm (by rw [o.k]; exact hk) (by rw [o.k]; exact lk) (by rw [o.k]; exact hcg) (by rw [o.k]; exact hbi) hsc hNg hva (hG X _ rfl rfl o.k rfl rfl (hr.mono (by omega))) TB hcd hT hu hr (by rw [hs, o.N]; exact L)
      (fun A outer s H E f c' hr' => hbody _ _ (lam_ok hsu o hs (fun z hz => (L.own z hz).2) hr')) nd hda hca) fun σ H Q w => word_run w
end
end Pyd
end

section
set_option Elab.async false
set_option linter.all false
set_option maxRecDepth 100000
set_option maxHeartbeats 4000000
/-! Pyd, part X: all defs of a program; a law at its script. -/
namespace Pyd
open PySem PySem.Spec L2
open PyProof.Rows hiding St
structure DefAt (S : Sx) (base : Heap) (mg : Str → Option Value) (x : Str) (k : Nat) (d : Df) : Prop where
  at_ : mg x = some (.ref (S.fa k))
  kp : PySem.W.keepIn S.K (.ref (S.fa k)) = true
  ex : ∃ (name qual : Str) (params : Arguments) (scope : Scope) (body : List Stmt) (dV kV doc pm cdv ct oc : Value) (od an : Option Addr) (osl : Array (Option Value)) (ps : List Str),
    S.K.lookup (S.fa k) = some ⟨oc, od, .func (PySem.W.fnOf name qual params body scope dV kV doc pm an cdv ct), osl⟩ ∧ PySem.W.codeIn S.K cdv qual = true ∧ FnScope d.N ps scope ∧ ps.length = d.np ∧ scope = d.sc ∧ body = d.body ∧
      Binds S.K (PySem.W.fnOf name qual params body scope dV kV doc pm an cdv ct) ps [] ∧ (d.lam = true → LamCode S base mg (qual ++ ".<locals>.") cdv)
def GAt (S : Sx) (P : Prog) (prog : Program) (w : World) (base : Heap) (mg : Str → Option Value) (x : Str) : Gb → Prop
  | .fn k => ∃ d, P.df k = some d ∧ DefAt S base mg x k d
  | .ty t => mg x = none ∧ x = Str.ofString t ∧ bootBuiltins x = some (.type t)
  | .bi t => mg x = none ∧ x = Str.ofString t ∧ bootBuiltins x = some (.builtin t)
  | .const d => ∃ u v, mg x = some u ∧ RelV v u ∧ ∀ F H, rep S F H d v
  | .word k => WordAt S prog w base mg x (P.words k)
  | .exc false => ClsAt S.K mg x (S.ca x)
  | .exc true => False
  | .flag _ => False
section
variable {S : Sx} {P : Prog} {prog : Program} {w : World} {base : Heap} {mg : Str → Option Value}
theorem run_len {R : Nat → List Sl → Out Rv} {d : Df} {vs : List V} {H : Hp} {Q : VK} {E : XK} (h : spOf S (runDf P R d) vs H Q E) : vs.length = d.np := by
  obtain ⟨F, ρ, Rp, w⟩ := h
  have hl := Rp.len
  rw [List.length_map] at hl
  unfold runDf at w
  cases e : decide (ρ.length = d.np) with
  | true => rw [hl]; exact of_decide_eq_true e
  | false => rw [e] at w; exact w.elim
/-- the body, from what is wanted of the call -/
theorem body_run {R : Nat → List Sl → Out Rv} {d : Df} {vs : List V} {H : Hp} {Q : VK} {E : XK} (h : spOf S (runDf P R d) vs H Q E) : tS S (fun c d _ H => E c d H) (evBlk (ev (cfgOf P R d) d.sc depth).S d.body) { nx := fun _ H' => Q .non H', rt := Q } (L2.start d.N vs) H := by
  have np := run_len h
  obtain ⟨F, ρ, Rp, w⟩ := h
  have hl := Rp.len
  rw [List.length_map] at hl
  refine ⟨F, padS d.N ρ, rep_start Rp, ?_⟩
  unfold runDf at w
  have e : decide (ρ.length = d.np) = true := decide_eq_true (by rw [← hl, np])
  rw [e] at w
  have ep : ρ ++ List.replicate (d.N.length - d.np) Sl.emp = padS d.N ρ := by
    unfold padS
    rw [← hl, np]
  simp only at w
  rw [ep] at w
  cases hm : evBlk (ev (cfgOf P R d) d.sc depth).S d.body (padS d.N ρ) with
  | bad => rw [hm] at w; exact w.elim
  | exc c x ρ' =>
    rw [hm] at w
    intro σ' F' H' cls dd Pp hx
    have w : Wg S (fun c d _ H' => E c d H') (vs.map some) F ρ H (match slOut ρ ρ' with | some ss => .exc c x ss | none => .bad) (GQ S (vs.map some) H Q) := w
    cases hs : slOut ρ ρ' with
    | none => rw [hs] at w; exact w.elim
    | some ss =>
      rw [hs] at w
      exact w F' H' cls dd (post_end Rp Pp hs) hx
  | ok fl ρ' =>
    rw [hm] at w
    intro σ' F' H' Pp
    have w2 : Wg S (fun c d _ H' => E c d H') (vs.map some) F ρ H (match retOf fl ρ', slOut ρ ρ' with | some r, some ss => .ok r ss | _, _ => .bad) (GQ S (vs.map some) H Q) := w
    clear w
    cases hs : slOut ρ ρ' with
    | none => rw [hs] at w2; cases hr : retOf fl ρ' <;> (rw [hr] at w2; exact w2.elim)
    | some ss =>
      rw [hs] at w2
      cases hr : retOf fl ρ' with
      | none => rw [hr] at w2; exact w2.elim
      | some r =>
        rw [hr] at w2
        have PE := post_end Rp Pp hs
        cases fl with
        | nx =>
          cases hr
          exact w2 F' H' PE .non rfl trivial
        | ret r0 =>
          intro v rv nv
          obtain ⟨a, b⟩ := ret_end Rp Pp hs hr rv nv
          exact w2 F' H' PE v a b
/-- a def, one call deeper than what it calls -/
theorem fn_step (G : ∀ x g, P.glob x = some g → GAt S P prog w base mg x g) {m : Nat} (ih : ∀ (x : Str) (k : Nat), P.glob x = some (.fn k) → ∃ fd ps, FnOk prog w S.K mg base (L2.CX prog w) (3 * m) (S.fa k) fd ps (spOf S (lev P m k)) ∧ Binds S.K fd ps [])
    {k : Nat} {d : Df} (hd : P.df k = some d) {name qual : Str} {params : Arguments} {dV kV doc pm cdv ct oc : Value} {od an : Option Addr} {osl : Array (Option Value)} {ps : List Str}
    (lk : S.K.lookup (S.fa k) = some ⟨oc, od, .func (PySem.W.fnOf name qual params d.body d.sc dV kV doc pm an cdv ct), osl⟩) (hcd : PySem.W.codeIn S.K cdv qual = true) (sc : FnScope d.N ps d.sc) (np : ps.length = d.np) (hl : d.lam = true → LamCode S base mg (qual ++ ".<locals>.") cdv) :
    FnOk prog w S.K mg base (L2.CX prog w) (3 * (m + 1)) (S.fa k) (PySem.W.fnOf name qual params d.body d.sc dV kV doc pm an cdv ct) ps (spOf S (lev P (m + 1) k)) := by
  have esp : lev P (m + 1) k = runDf P (lev P m) d := by
    funext as
    show (match P.df k with | some d => runDf P (lev P m) d as | none => .bad) = _
    rw [hd]
  rw [esp]
  refine fn_of (k := 3 * m + 2) lk hcd sc (fun vs H Q E h => by rw [np]; exact run_len h) fun A outer s H vs Q E hr h => ⟨_, body_snd (C := cfgOf P (lev P m) d) (n := 3 * m) ?_ depth d.body, body_run h⟩
  have o : Ok0 S (cfgOf P (lev P m) d) (cxOf (L2.CX prog w) prog w S.K mg base d.N qual d.sc (S.fa k) cdv A outer s H E) (fun c d _ H => E c d H) d.sc (3 * m) := {
    k := rfl
    N := rfl
    nd := sc.nd
    calm := fun _ => rfl
    tk := takes_of rfl rfl rfl rfl
    room := fun _ => hr.mono (by omega)
    line := room_line hr
    sr := fun x k h => ⟨fun z => z ▸ h, fun z => ⟨z ▸ h, rfl⟩, fun z => .inr (z ▸ h), fun z => z ▸ h⟩
    gb := fun y g hy => by
      have q := G y g hy
      cases g with
      | fn j =>
        obtain ⟨d', _, D'⟩ := (show ∃ d, P.df j = some d ∧ DefAt S base mg y j d from q)
        obtain ⟨fd, ps', F', B'⟩ := ih y j hy
        exact (show FnAt S _ _ (3 * m) y j from ⟨D'.at_, D'.kp, fd, ps', F', B'⟩)
      | ty t => exact q
      | bi t => exact q
      | const d => exact q
      | word j => trivial
      | exc b => trivial
      | flag b => exact q.elim }
  exact ⟨⟨o, fun _ hlam => lamF_ok rfl o rfl (fun y j hy => G y _ hy) rfl (hl hlam) hr⟩, passes_of rfl, raise_ok rfl o (fun y hy => G y _ hy) fun y hy => G y _ hy⟩
/-- all defs, m calls deep -/
theorem lev_ok (G : ∀ x g, P.glob x = some g → GAt S P prog w base mg x g) : ∀ (m : Nat) (x : Str) (k : Nat), P.glob x = some (.fn k) → ∃ fd ps, FnOk prog w S.K mg base (L2.CX prog w) (3 * m) (S.fa k) fd ps (spOf S (lev P m k)) ∧ Binds S.K fd ps []
  | 0, x, k, hx => by
    obtain ⟨d, _, D⟩ := (show ∃ d, P.df k = some d ∧ DefAt S base mg x k d from G x _ hx)
    obtain ⟨name, qual, params, scope, body, dV, kV, doc, pm, cdv, ct, oc, od, an, osl, ps, lk, hcd, sc, np, rfl, rfl, hb, hl⟩ := D.ex
    exact ⟨_, ps, ⟨fun vs H Q E ⟨F, ρ, _, w⟩ => w.elim, fun A outer s H args us vs Q E _ _ _ _ ⟨F, ρ, _, w⟩ => w.elim⟩, hb⟩
  | m + 1, x, k, hx => by
    obtain ⟨d, hd, D⟩ := (show ∃ d, P.df k = some d ∧ DefAt S base mg x k d from G x _ hx)
    obtain ⟨name, qual, params, scope, body, dV, kV, doc, pm, cdv, ct, oc, od, an, osl, ps, lk, hcd, sc, np, rfl, rfl, hb, hl⟩ := D.ex
    exact ⟨_, ps, fn_step G (lev_ok G m) hd lk hcd sc np hl, hb⟩
/-- a law at its script -/
theorem sp_script {m k : Nat} {a : Addr} {ns : List Int} {H : Hp} (hT : LamX.Tabs S.T H) (hS : SqL S.K H a (ns.map V.int)) (h : ∃ ss, lev P m k [.val (.scr ns)] = .ok (.val (.bl true)) ss) : spOf S (lev P m k) [.ref a] H (fun v _ => v = .bl true) fun _ _ _ => False := by
  obtain ⟨ss, h⟩ := h
  have go : ∀ F : Fz, (∀ b, F b → (∃ vs, H b = some (.lst vs)) ∨ H b = some (.dK [])) → ScrAt S.K F H a (ns.map V.int) → spOf S (lev P m k) [.ref a] H (fun v _ => v = .bl true) fun _ _ _ => False := fun F hF hA => by
    refine ⟨F, [.val (.scr ns)], ⟨rfl, fun i s hs => ?_, fun i j b ⟨o, oi⟩ => ?_, hF, hT⟩, ?_⟩
    · cases i with
      | zero => cases hs; exact ⟨.ref a, rfl, a, rfl, hA⟩
      | succ i => simp at hs
    · cases i with
      | zero => rcases oi with z | z <;> cases z
      | succ i => simp at oi
    · rw [h]
      exact fun F' H' _ v rv _ => rv
  rcases hS with (z | ⟨ob, z⟩) | z
  · exact go (fun b => b = a) (fun b e => .inl ⟨_, e ▸ z⟩) (.inr (.inl ⟨rfl, z⟩))
  · exact go (fun _ => False) (fun b e => e.elim) (.inl ⟨ob, z⟩)
  · exact go (fun _ => False) (fun b e => e.elim) (.inr (.inr z))
end
/-- what holds of every entry -/
def All2 {α β : Type} (Φ : α → β → Prop) : List (α × β) → Prop
  | [] => True
  | p :: r => Φ p.1 p.2 ∧ All2 Φ r
theorem All2.at {β : Type} {Φ : Str → β → Prop} : ∀ {l : List (Str × β)} {x : Str} {g : β}, All2 Φ l → l.lookup x = some g → Φ x g
  | [], _, _, _, h => by cases h
  | (y, b) :: r, x, g, ⟨h1, h2⟩, h => by
    rw [List.lookup_cons] at h
    split at h
    · rename_i hb
      cases h
      have e : x = y := by simpa using hb
      subst e
      exact h1
    · exact All2.at h2 h
theorem no_exc {prog : Program} {w : World} {H : Hp} {s : Shared} {e : Value} {s' : Shared} (h : L2.CX prog w [] H s (fun _ _ _ => False) e s') : False := by
  obtain ⟨_, _, _, _, _, _, _, _, _, _, _, _, z⟩ := h
  exact z.elim
end Pyd
end

section
set_option Elab.async false
set_option linter.all false
set_option maxRecDepth 100000
set_option maxHeartbeats 4000000
/-! Pyd, part ZB: helpers that tell errors, run by the interpreter itself: pre, try: call() / except X as e: suite / .., post. -/
namespace Pyd
open PySem PySem.Spec L2
open PyProof.Rows hiding St
theorem pss_len {X : Cx} {ss : List Stmt} {t : TS} (h : PSs X ss t) : PSs X ss (fun D σ H => σ.length = X.N.length → t D σ H) := ⟨fun pins s σ H D I w => h.run pins s σ H D I (w I.len)⟩
theorem kit_ref {K : PySem.W.Frag} {C D : Addr} {b : Bool} (hd : PySem.W.hasDictIn K C = true) (ht : PySem.W.typeIn K (.ref C) = some (.type "type")) (hs : PySem.W.subIn K (.ref D) (.ref C) = some b) (he : D = C → b = true) : PySem.W.kitOne K (.ref D) (.ref C) = some b := by
  obtain ⟨cd, hc, _⟩ := PySem.W.any_some hd
  have e2 : ((PySem.W.clsIn K C).isSome && PySem.W.typeIn K (.ref C) == some (.type "type")) = true := by rw [hc, ht] <;> rfl
  unfold PySem.W.kitOne
  by_cases h : ((Value.ref D == Value.ref C) = true)
  · rw [if_pos h, he (by simpa using h)]
  · rw [if_neg h]
    show (if ((PySem.W.clsIn K C).isSome && PySem.W.typeIn K (.ref C) == some (.type "type")) = true then PySem.W.subIn K (.ref D) (.ref C) else none) = some b
    rw [if_pos e2]
    exact hs
theorem kit_bt {K : PySem.W.Frag} {D : Addr} {t : String} {b : Bool} (hm : PySem.W.kitMeta t = true) (hs : PySem.W.subIn K (.ref D) (.type t) = some b) : PySem.W.kitOne K (.ref D) (.type t) = some b := by
  unfold PySem.W.kitOne
  rw [if_neg (by simp)]
  show (if PySem.W.kitMeta t = true then PySem.W.subIn K (.ref D) (.type t) else none) = some b
  rw [if_pos hm]
  exact hs
section
variable {S : Sx} {X : Cx} {W : WX}
theorem pss_pre {f : Stmt → M Pyd.Flow} {rest : List Stmt} {t2 : TS} (h2 : PSs X rest t2) : ∀ {pre : List Stmt}, (∀ s, PS X s (tS S W (f s))) → PSs X (pre ++ rest) (fun D σ H => tS S W (evBlk f pre) { nx := fun σ' H' => t2 D σ' H', rt := D.rt, bk := D.bk, ct := D.ct } σ H)
  | [], _ => PSs.sub h2 fun D σ H ⟨F, ρ, R, w⟩ => WgS.ok w (Post.refl R)
  | s :: ss, h => by
    have ih := pss_pre h2 (pre := ss) h
    refine PSs.sub (pss_cons (h s) ih) fun D σ H ⟨F, ρ, R, w⟩ => run_SS2 (Post.refl R) w fun fl σ1 F1 ρ1 H1 P w => ?_
    cases fl with
    | nx => exact ⟨F1, ρ1, P.rep, (w.shift P).imp fun fl σ' F' ρ' H' _ g => g.up fun a e => P.step.none e⟩
    | ret r => exact WgS.ok (W := W) w P
end
/-! flat states -/
def flatSl : Sl → Bool
  | .emp => true
  | .val d => flatD d
  | _ => false
theorem fl_rep {S S' : Sx} {F F' : Fz} {H H' : Hp} {d : D} {v : V} (f : flatD d = true) (h : rep S F H d v) : rep S' F' H' d v := by
  cases d <;> first | exact h | cases f
theorem fl_top {S S' : Sx} {F : Fz} {H : Hp} {d : D} {v : V} (f : flatD d = true) (h : top S F H d v) : CR S' d v := by
  cases d <;> first | exact fun _ _ => h | cases f
def NoOwn (ρ : List Sl) : Prop := ∀ i, ¬ OwnAt ρ i
theorem NoOwn.oa {σ : St} {ρ : List Sl} (h : NoOwn ρ) (a : Addr) : ¬ OA σ ρ a := fun ⟨i, o, _⟩ => h i o
theorem flat_noOwn {ρ : List Sl} (h : ρ.all flatSl = true) : NoOwn ρ := by
  rintro i ⟨o, e | e⟩
  · have := List.all_eq_true.mp h _ (List.mem_of_getElem? e); cases this
  · have := List.all_eq_true.mp h _ (List.mem_of_getElem? e); cases this
theorem flat_SRep {S S' : Sx} {F : Fz} {σ : St} {ρ : List Sl} {H H' : Hp} (hf : ρ.all flatSl = true) (R : SRep S F σ ρ H) (t : LamX.Tabs S'.T H') : SRep S' (fun _ => False) σ ρ H' where
  len := R.len
  all := fun i s hs => by
    have f := List.all_eq_true.mp hf _ (List.mem_of_getElem? hs)
    cases s with
    | emp => trivial
    | val d => obtain ⟨v, e, r⟩ := R.all i _ hs; exact ⟨v, e, fl_rep f r⟩
    | own o => cases f
    | bor o => cases f
  inj := fun i j a hi => absurd hi (flat_noOwn hf i)
  fz := fun a z => z.elim
  tabs := t
def startW (n : Nat) : List Sl := List.replicate n .emp
theorem startW_get {n i : Nat} {s : Sl} (h : (startW n)[i]? = some s) : s = .emp := by
  unfold startW at h
  exact List.eq_of_mem_replicate (List.mem_of_getElem? h)
theorem startW_noOwn (n : Nat) : NoOwn (startW n) := by
  rintro i ⟨o, e | e⟩ <;> cases startW_get e
theorem startW_SRep {S' : Sx} {σ : St} {n : Nat} {H' : Hp} (len : σ.length = n) (t : LamX.Tabs S'.T H') : SRep S' (fun _ => False) σ (startW n) H' where
  len := by rw [len]; unfold startW; rw [List.length_replicate]
  all := fun i s hs => by cases startW_get hs; trivial
  inj := fun i j a hi => absurd hi (startW_noOwn n i)
  fz := fun a z => z.elim
  tabs := t
theorem set_noOwn (n ie : Nat) (d : D) : NoOwn ((startW n).set ie (.val d)) := by
  rintro i ⟨o, e⟩
  rw [List.getElem?_set] at e
  split at e
  · split at e
    · rcases e with e | e <;> cases e
    · rcases e with e | e <;> cases e
  · exact startW_noOwn n i ⟨o, e⟩
theorem set_SRep {S' : Sx} {σ : St} {n ie : Nat} {d : D} {v : V} {H' : Hp} (len : σ.length = n) (hi : ie < n) (hv : rep S' (fun _ => False) H' d v) (t : LamX.Tabs S'.T H') : SRep S' (fun _ => False) (σ.set ie (some v)) ((startW n).set ie (.val d)) H' where
  len := by rw [List.length_set, List.length_set, len]; unfold startW; rw [List.length_replicate]
  all := fun i s hs => by
    rw [List.getElem?_set] at hs
    split at hs
    · rename_i e
      subst e
      split at hs
      · cases hs
        exact ⟨v, List.getElem?_set_self (by omega), hv⟩
      · cases hs
    · cases startW_get hs; trivial
  inj := fun i j a hi => absurd hi (set_noOwn n ie d i)
  fz := fun a z => z.elim
  tabs := t
theorem SRep.gone {S : Sx} {F : Fz} {σ : St} {ρ : List Sl} {H : Hp} (R : SRep S F σ ρ H) (i : Nat) : SRep S F (σ.set i none) (ρ.set i .emp) H where
  len := by rw [List.length_set, List.length_set, R.len]
  all := fun j s hs => by
    rw [List.getElem?_set] at hs
    split at hs
    · split at hs
      · cases hs; trivial
      · cases hs
    · rename_i ne
      have q := R.all j s hs
      cases s with
      | emp => trivial
      | val d => obtain ⟨v, e, r⟩ := q; exact ⟨v, by rw [List.getElem?_set_ne ne]; exact e, r⟩
      | own o => obtain ⟨v, e, r⟩ := q; exact ⟨v, by rw [List.getElem?_set_ne ne]; exact e, r⟩
      | bor o => obtain ⟨v, e, r⟩ := q; exact ⟨v, by rw [List.getElem?_set_ne ne]; exact e, r⟩
  inj := fun j k a hj hk ej ek => by
    have own : ∀ {j : Nat}, OwnAt (ρ.set i .emp) j → i ≠ j ∧ OwnAt ρ j := fun {j} ⟨o, h⟩ => by
      rw [List.getElem?_set] at h
      split at h
      · split at h
        · rcases h with h | h <;> cases h
        · rcases h with h | h <;> cases h
      · rename_i ne; exact ⟨ne, o, h⟩
    obtain ⟨n1, h1⟩ := own hj
    obtain ⟨n2, h2⟩ := own hk
    rw [List.getElem?_set_ne n1] at ej
    rw [List.getElem?_set_ne n2] at ek
    exact R.inj j k a h1 h2 ej ek
  fz := R.fz
  tabs := R.tabs
theorem Post.gone {S : Sx} {F F' : Fz} {σ σ' : St} {ρ ρ' : List Sl} {H H' : Hp} (P : Post S F σ ρ H F' σ' ρ' H') (no : NoOwn ρ) (i : Nat) : Post S F σ ρ H F' (σ'.set i none) (ρ'.set i .emp) H' where
  step := P.step
  rep := P.rep.gone i
  oa := fun a ⟨j, ⟨o, h⟩, e⟩ => by
    rw [List.getElem?_set] at h
    split at h
    · split at h
      · rcases h with h | h <;> cases h
      · rcases h with h | h <;> cases h
    · rename_i ne
      rw [List.getElem?_set_ne ne] at e
      exact P.oa a ⟨j, ⟨o, h⟩, e⟩
  bor := fun j o h => absurd ⟨o, .inr h⟩ (no j)
theorem Post.extN {S : Sx} {F F' : Fz} {σ σ' : St} {ρ ρ' : List Sl} {H H' : Hp} (P : Post S F σ ρ H F' σ' ρ' H') (no : NoOwn ρ) : LamX.ExtN H H' := fun b o h nt => P.step.keep b o h nt (no.oa b)
/-! what a helper comes to -/
def finD (fl : Pyd.Flow) (ρ : List Sl) : Option D := match fl with
  | .ret r => match peek r ρ with
    | some d => match flatD d with
      | true => some d
      | false => none
    | none => none
  | .nx => none
def runPost (C : Cfg) (sg : Scope) (post : List Stmt) (ρ : List Sl) : Option D := match evBlk (ev C sg depth).S post ρ with
  | .ok fl ρ' => finD fl ρ'
  | _ => none
/-- the state behind pre: word = w0 -/
def preSt (n iw : Nat) : Option (Str × Str) → List Sl
  | none => startW n
  | some p => (startW n).set iw (.val (.str p.2))
def runOk (C : Cfg) (sg : Scope) (pre : Option (Str × Str)) (post : List Stmt) (n iw : Nat) : Option D := runPost C sg post (preSt n iw pre)
def runExc (Cc C : Cfg) (sg : Scope) (suite post : List Stmt) (ie n : Nat) : Option D := match evBlk (ev Cc sg depth).S suite ((startW n).set ie (.val (.fn exnK))) with
  | .ok .nx ρ => runPost C sg post (ρ.set ie .emp)
  | .ok (.ret r) ρ => finD (.ret r) ρ
  | _ => none
theorem fin_inv {fl : Pyd.Flow} {ρ : List Sl} {d : D} (h : finD fl ρ = some d) : ∃ r, fl = .ret r ∧ peek r ρ = some d ∧ flatD d = true := by
  unfold finD at h
  split at h
  · rename_i r
    split at h
    · rename_i d' e
      split at h
      · rename_i f; cases h; exact ⟨r, rfl, e, f⟩
      · cases h
    · cases h
  · cases h
abbrev W0' : WX := fun _ _ _ _ => False
/-- the end of a helper's run, from a state without lists of its own -/
theorem post_run {S S' : Sx} {C : Cfg} {sg : Scope} {post : List Stmt} {F0 F1 : Fz} {σ0 σ1 : St} {ρ0 ρ1 : List Sl} {H0 H1 : Hp} {D : Ends} {dd : Pyd.D} (no : NoOwn ρ0) (P : Post S' F0 σ0 ρ0 H0 F1 σ1 ρ1 H1) (hT : S'.T = S.T) (h : runPost C sg post ρ1 = some dd)
    (k : ∀ u H'', LamX.ExtN H0 H'' → LamX.Tabs S.T H'' → CR S dd u → D.rt u H'') : tS S' W0' (evBlk (ev C sg depth).S post) D σ1 H1 := by
  refine ⟨F1, ρ1, P.rep, ?_⟩
  unfold runPost at h
  cases e : evBlk (ev C sg depth).S post ρ1 with
  | bad => rw [e] at h; cases h
  | exc c x ρ' => rw [e] at h; cases h
  | ok fl ρ2 =>
    rw [e] at h
    obtain ⟨r, rfl, e1, f⟩ := fin_inv h
    intro σ2 F2 H2 P2 v rv nv
    have PP := P.trans P2
    exact k v H2 (PP.extN no) (by rw [← hT]; exact P2.rep.tabs) (fl_top f (peek_top P2.rep rv e1))
/-- the clauses: except X as en: suite -/
inductive Clauses (en : Str) : List ExceptHandler → List (Str × List Stmt) → Prop
  | nil : Clauses en [] []
  | cons {x : Str} {q q' : Pos} {s₀ : Stmt} {sr : List Stmt} {hs : List ExceptHandler} {cl : List (Str × List Stmt)} (r : Clauses en hs cl) : Clauses en (.ExceptHandler (some (.Name x q)) (some en) (s₀ :: sr) q' :: hs) ((x, s₀ :: sr) :: cl)
def clOf (en : Str) : List ExceptHandler → Option (List (Str × List Stmt))
  | [] => some []
  | .ExceptHandler (some (.Name x _)) (some e) (s₀ :: sr) _ :: hs => match e == en with
    | true => (clOf en hs).map ((x, s₀ :: sr) :: ·)
    | false => none
  | _ => none
theorem clauses_of {en : Str} : ∀ {hs : List ExceptHandler} {cl : List (Str × List Stmt)}, clOf en hs = some cl → Clauses en hs cl
  | [], cl, h => by cases h; exact .nil
  | e :: r, cl, h => by
    unfold clOf at h
    split at h
    · rename_i heq; cases heq
    · rename_i heq
      cases heq
      split at h
      · rename_i hb
        rename_i x _ e' s0 sr _ _
        have e2 : e' = en := by simpa using hb
        subst e2
        cases hr : clOf e' r with
        | none => rw [hr] at h; cases h
        | some ys => rw [hr] at h; cases h; exact .cons (clauses_of hr)
      · cases h
    · cases h
/-- pre, the try, post; the called name; the error's name; the clauses -/
structure WordT where
  a : Str
  en : Str
  pre : Option (Str × Str)
  post : List Stmt
  cl : List (Str × List Stmt)
def wordT1 (pre : Option (Str × Str)) : List Stmt → Option WordT
  | .Try [.Expr (.Call (.Name a _) [] [] _) _] (.ExceptHandler t (some en) b q :: hs) [] [] _ :: post => (clOf en (.ExceptHandler t (some en) b q :: hs)).map fun cl => ⟨a, en, pre, post, cl⟩
  | _ => none
def wordT : List Stmt → Option WordT
  | .Assign [.Name wd _] (.Constant (.str w0) _ _) _ :: ss => wordT1 (some (wd, w0)) ss
  | ss => wordT1 none ss
theorem wordT1_inv {pre : Option (Str × Str)} {bg : List Stmt} {w : WordT} (h : wordT1 pre bg = some w) : w.pre = pre ∧ ∃ (p1 p2 p3 p4 : Pos) (h : ExceptHandler) (hs : List ExceptHandler), bg = .Try [.Expr (.Call (.Name w.a p1) [] [] p2) p3] (h :: hs) [] [] p4 :: w.post ∧ Clauses w.en (h :: hs) w.cl := by
  unfold wordT1 at h
  split at h
  · rename_i a p1 p2 p3 t en b q hs p4 post
    cases hc : clOf en (.ExceptHandler t (some en) b q :: hs) with
    | none => rw [hc] at h; cases h
    | some cl => rw [hc] at h; cases h; exact ⟨rfl, p1, p2, p3, p4, _, hs, rfl, clauses_of hc⟩
  · cases h
theorem wordT_inv {bg : List Stmt} {w : WordT} (h : wordT bg = some w) : ∃ (p1 p2 p3 p4 : Pos) (h : ExceptHandler) (hs : List ExceptHandler) (rest : List Stmt), rest = .Try [.Expr (.Call (.Name w.a p1) [] [] p2) p3] (h :: hs) [] [] p4 :: w.post ∧ Clauses w.en (h :: hs) w.cl ∧
    ((w.pre = none ∧ bg = rest) ∨ ∃ wd w0 q1 q2 q3 k, w.pre = some (wd, w0) ∧ bg = .Assign [.Name wd q1] (.Constant (.str w0) k q2) q3 :: rest) := by
  unfold wordT at h
  split at h
  · rename_i wd q1 w0 k q2 q3 ss
    obtain ⟨e, p1, p2, p3, p4, h1, hs, e2, c⟩ := wordT1_inv h
    exact ⟨p1, p2, p3, p4, h1, hs, _, rfl, c, .inr ⟨wd, w0, q1, q2, q3, k, e, by rw [e2]⟩⟩
  · obtain ⟨e, p1, p2, p3, p4, h1, hs, e2, c⟩ := wordT1_inv h
    exact ⟨p1, p2, p3, p4, h1, hs, _, rfl, c, .inl ⟨e, e2⟩⟩
/-- the first clause that takes an error -/
def pickC (mt : Str → Bool) : List (Str × List Stmt) → Option (List Stmt)
  | [] => none
  | (x, su) :: r => match mt x with
    | true => some su
    | false => pickC mt r
def wCfg (N : List Str) (sg : Scope) (gl : Str → Option Gb) : Cfg := ⟨N, gl, fun _ _ => .bad, fun _ => [], fun _ => ⟨.non, fun _ _ => none⟩, false, sg, true⟩
/-- what is asked of a helper: gl c, mt c: the flags and the matching clauses of an error of the class c -/
structure WordG (S : Sx) (mg : Str → Option Value) (N : List Str) (sg : Scope) (w : WordT) (ie iw : Nat) (gl : Str → Str → Option Gb) (mt : Str → Str → Bool) (A : Str → Addr) (wh : WordH) : Prop where
  ok : runOk (wCfg N sg fun _ => none) sg w.pre w.post N.length iw = some wh.ok
  wd : ∀ p, w.pre = some p → N[iw]? = some p.1 ∧ sg.names.lookup p.1 = some .local ∧ 0 < iw
  cls : ∀ p ∈ w.cl, mg p.1 = some (.ref (A p.1)) ∧ sg.names.lookup p.1 = some .globalImplicit ∧ (p.1 == ("__debug__" : Str)) = false
  exc : ∀ c x d, wh.exc c x = some d → x = none ∧ ExcC S.K (S.ca c) ∧ (∀ p ∈ w.cl, PySem.W.exmOne S.K (.ref (S.ca c)) (.ref (A p.1)) = some (mt c p.1)) ∧
    (∃ su, pickC (mt c) w.cl = some su ∧ runExc (wCfg N sg (gl c)) (wCfg N sg fun _ => none) sg su w.post ie N.length = some d) ∧
    ∀ y g, gl c y = some g → (g = .bi "isinstance" ∧ y = "isinstance" ∧ mg y = none) ∨ ∃ b, g = .flag b ∧ ((∃ Cc, mg y = some (.ref Cc) ∧ PySem.W.kitOne S.K (.ref (S.ca c)) (.ref Cc) = some b) ∨ ∃ t, mg y = none ∧ bootBuiltins y = some (.type t) ∧ PySem.W.kitOne S.K (.ref (S.ca c)) (.type t) = some b)
section
variable {S : Sx} {X : Cx}
theorem w_ok0 {S' : Sx} {N : List Str} {sg : Scope} {gl : Str → Option Gb} {X' : Cx} {W : WX} (hK : X'.K = S'.K) (hN : X'.N = N) (nd : N.Nodup) (tk : Takes X' W) (ln : X'.A.units + 64 < cLine) (hsc : X'.env.scope = sg) (hfn : ∀ x, X'.fn x = true)
    (hg : ∀ y g, gl y = some g → GbAt S' (wCfg N sg gl) X' 0 y g) : Ok S' (wCfg N sg gl) X' W sg 0 := by
  refine ⟨{ k := hK, N := hN, nd := nd, calm := fun z => (nomatch z), tk := tk, room := fun z => (nomatch z), line := ln, sr := fun x k h => ?_, gb := hg }, fun _ z => (nomatch z)⟩
  subst hsc
  exact ⟨fun z => z ▸ h, fun z => ⟨z ▸ h, hfn x⟩, fun z => .inr (z ▸ h), fun z => z ▸ h⟩
theorem w_raise {S' : Sx} {N : List Str} {sg : Scope} {gl : Str → Option Gb} {X' : Cx} {W : WX} (hg : ∀ y b, gl y ≠ some (.exc b)) : RaiseF S' (wCfg N sg gl) X' W sg := by
  intro f x args p1 p2 p3 _
  have e : ∀ ρ, raiseM (wCfg N sg gl) sg f x args ρ = .bad := fun ρ => by
    unfold raiseM
    cases h : globOf (wCfg N sg gl) sg x with
    | none => rfl
    | some g =>
      cases g with
      | exc b =>
        unfold globOf at h
        split at h
        · split at h
          · cases h
          · exact absurd h (hg x b)
        · cases h
      | _ => rfl
  exact ps_no e
theorem word_gen {Ng : List Str} {x q : Str} {sg : Scope} {g : Addr} {cdg : Value} {bg : List Stmt} {w : WordT} {ie iw : Nat} {gl : Str → Str → Option Gb} {mt : Str → Str → Bool} {A : Str → Addr} {wh : WordH} (hK : X.K = S.K) (hr : Room 2 X.A) (hb : wordT bg = some w) (nd : Ng.Nodup) (hi : Ng[ie]? = some w.en) (lcl : sg.names.lookup w.en = some .local)
    (W : WordG S X.mg Ng sg w ie iw gl mt A wh) : LamX.GivesTo X Ng x sg g cdg bg w.a q (TTw S wh) := by
  intro f c' s H Q tl act hc h
  obtain ⟨tabs, E, Qv, htl, hok, hex⟩ := h
  obtain ⟨p1, p2, p3, p4, h0, hs, rest, hrest, hcl, hpre⟩ := wordT_inv hb
  let X0 : Cx := (cxOf C8.CX0 X.prog X.w X.K X.mg X.base Ng x sg g cdg X.A X.stack s H C8.E0).nox
  have ln : X0.A.units + 64 < cLine := room_line ((hr.mono (by omega : 1 ≤ 2)).deeper (envOfC x sg s.heap.objs.size g cdg))
  have hie : ie < Ng.length := (List.getElem?_eq_some_iff.mp hi).1
  have okP : ∀ S' : Sx, S'.K = S.K → OkS S' (wCfg Ng sg fun _ => none) X0 W0' sg 0 := fun S' e => ⟨w_ok0 (X' := X0) (hK.trans e.symm) rfl nd LamX.takes0 ln rfl (fun _ => rfl) (fun _ _ z => nomatch z), PassesOwn.never, w_raise fun _ _ z => nomatch z⟩
  let S2 : Addr → Sx := fun a => { S with fa := fun k => if k = exnK then a else S.fa k }
  have hS2 : ∀ a, (S2 a).fa exnK = a := fun a => by
    show (if exnK = exnK then a else S.fa exnK) = a
    exact if_pos rfl
  let ts : List Stmt → SuiteT := fun su a cls d D σ H => ∃ c, cls = .ref (S.ca c) ∧ d = none ∧ ExcC S.K (S.ca c) ∧ (∀ y g, gl c y = some g → (g = .bi "isinstance" ∧ y = "isinstance" ∧ X.mg y = none) ∨ ∃ b, g = .flag b ∧ ((∃ Cc, X.mg y = some (.ref Cc) ∧ PySem.W.kitOne S.K (.ref (S.ca c)) (.ref Cc) = some b) ∨ ∃ t, X.mg y = none ∧ bootBuiltins y = some (.type t) ∧ PySem.W.kitOne S.K (.ref (S.ca c)) (.type t) = some b)) ∧
    (σ.length = Ng.length → tS (S2 a) W0' (evBlk (ev (wCfg Ng sg (gl c)) sg depth).S su) D σ H)
  let tpost : TS := fun D σ H => ∃ S' : Sx, S'.K = S.K ∧ tS S' W0' (evBlk (ev (wCfg Ng sg fun _ => none) sg depth).S w.post) D σ H
  have hpost : PSs X0 w.post tpost := ⟨fun pins s' σ H' D I ⟨S', e, k⟩ => (body_snd (okP S' e) depth w.post).run pins s' σ H' D I k⟩
  let tb : WX → TS := fun W' D σ H => (∀ cls d σ' H', E cls d H' → W' cls d σ' H') ∧ σ[0]? = some (some (.ref f)) ∧ H c' = some (LamX.CodeO c' q) ∧ tl E H Qv ∧ ∀ v H', Qv v H' → D.nx σ H'
  have hsu : ∀ (su : List Stmt) (a : Addr) (oe : Obj) (cls : Value) (d : Option Addr) (pn : List (Addr × Obj)), Zc cls d oe → (∃ vs, oe.data = .fields vs) → PSs (X0.suite a ((a, oe) :: pn)) su (ts su a cls d) := fun su a oe cls d pn hz hf => by
    refine ⟨fun pins s' σ H' D I ⟨c, e1, e2, C, hgl, k⟩ => ?_⟩
    subst e1
    subst e2
    have hgb : ∀ y g, gl c y = some g → GbAt (S2 a) (wCfg Ng sg (gl c)) (X0.suite a ((a, oe) :: pn)) 0 y g := fun y g hy => by
      rcases hgl y g hy with ⟨rfl, rfl, hm⟩ | ⟨b, rfl, hv⟩
      · exact ⟨hm, rfl, by decide +kernel⟩
      · refine ⟨rfl, S.ca c, ?_, ?_⟩
        · rw [hS2]
          exact call_isE (X := X0) (by show ExcC X.K _; rw [hK]; exact C) hz hf
        · show (∃ Cc, X.mg y = some (.ref Cc) ∧ PySem.W.kitOne X.K _ _ = some b) ∨ ∃ t, X.mg y = none ∧ _ ∧ PySem.W.kitOne X.K _ _ = some b
          rw [hK]
          exact hv
    have hx : ∀ y b, gl c y ≠ some (.exc b) := fun y b z => by
      rcases hgl y _ z with ⟨e, _⟩ | ⟨_, e, _⟩ <;> cases e
    have o : OkS (S2 a) (wCfg Ng sg (gl c)) (X0.suite a ((a, oe) :: pn)) W0' sg 0 := ⟨w_ok0 (X' := X0.suite a ((a, oe) :: pn)) hK rfl nd LamX.takes0 ln rfl (fun _ => rfl) hgb, PassesOwn.never, w_raise hx⟩
    exact (body_snd o depth su).run pins s' σ H' D I (k I.len)
  have hhas : ∀ {hs' : List ExceptHandler} {cl' : List (Str × List Stmt)}, Clauses w.en hs' cl' → (∀ p ∈ cl', p ∈ w.cl) → HasOk X0 w.en hs' (cl'.map fun p => (.ref (A p.1), ts p.2)) := by
    intro hs' cl' hk
    induction hk with
    | nil => intro _; exact .nil
    | @cons y q1 q2 s0 sr hs'' cl'' r ih =>
      intro hm
      obtain ⟨m1, m2, m3⟩ := W.cls _ (hm _ List.mem_cons_self)
      exact .cons ⟨m2, m3, .inl m1⟩ (fun a oe cls d pn hz hf => hsu _ a oe cls d pn hz hf) (ih fun p hp => hm p (List.mem_cons_of_mem _ hp))
  have hlen : (L2.start Ng [V.ref f]).length = Ng.length := by
    unfold L2.start
    rw [List.length_append, List.length_map, List.length_replicate]
    show 1 + (Ng.length - 1) = _
    omega
  have htry : PSs X0 rest (tSeq (fun D σ H => tb (wAsM X0.K W0' D ie (w.cl.map fun p => (.ref (A p.1), ts p.2))) D σ H) tpost) := by
    rw [hrest]
    refine pss_cons (ps_try_asM (X := X0) (i := ie) (tb := tb) (l := w.cl.map fun p => (.ref (A p.1), ts p.2)) rfl rfl nd hi lcl LamX.takes0 (fun W' pn xe tk _ => ?_) (hhas hcl fun p hp => hp)) hpost
    refine pss_one ⟨fun pins s' σ H' D I ⟨hW, e1, e2, e3, e4⟩ => ?_⟩
    exact wpAny_Expr_any (thn ((act W' pn xe E p1 p2 tk hW).run pins s' σ H' Qv I ⟨e1, e2, e3⟩) fun v s1 ⟨y, H1, I1, r1, q1⟩ => ⟨σ, H1, I1, e4 y H1 q1⟩) I.quiet rfl
  have core : ∀ (σ1 : St) (ρ1 : List Sl), σ1[0]? = some (some (.ref f)) → NoOwn ρ1 → (∀ H', LamX.Tabs S.T H' → SRep S (fun _ => False) σ1 ρ1 H') → runPost (wCfg Ng sg fun _ => none) sg w.post ρ1 = some wh.ok →
      tSeq (fun D σ H => tb (wAsM X0.K W0' D ie (w.cl.map fun p => (.ref (A p.1), ts p.2))) D σ H) tpost { nx := fun _ H' => Q .non H', rt := Q } σ1 H := by
    intro σ1 ρ1 h1 no hR hrun
    refine ⟨fun cls d σ' H' hE => ?_, h1, hc, htl, fun v H' qv => ?_⟩
    · obtain ⟨c, y, dd, F, hd, hx', tb', k⟩ := hex cls d H' hE
      obtain ⟨rfl, C, hm, ⟨su, hp, hrs⟩, hgl⟩ := W.exc c y dd hd
      obtain ⟨rfl, rfl⟩ : cls = .ref (S.ca c) ∧ d = none := hx'
      have go : ∀ cl' : List (Str × List Stmt), (∀ p ∈ cl', p ∈ w.cl) → pickC (mt c) cl' = some su → wAsM X0.K W0' { nx := fun σ' H' => tpost { nx := fun _ H' => Q .non H', rt := Q } σ' H', rt := Q } ie (cl'.map fun p => (.ref (A p.1), ts p.2)) (.ref (S.ca c)) none σ' H' := by
        intro cl'
        induction cl' with
        | nil => intro _ z; cases z
        | cons p r ih =>
          obtain ⟨px, ps⟩ := p
          intro hmem hpk
          refine ⟨mt c px, by show PySem.W.exmOne X.K _ _ = _; rw [hK]; exact hm _ (hmem _ List.mem_cons_self), fun hb a na => ?_, fun hb => ih (fun p hp => hmem p (List.mem_cons_of_mem _ hp)) (by
            unfold pickC at hpk
            rw [hb] at hpk
            exact hpk)⟩
          unfold pickC at hpk
          rw [hb] at hpk
          cases hpk
          refine ⟨c, rfl, rfl, C, hgl, fun hlen' => ?_⟩
          rw [List.length_set] at hlen'
          have R2 : SRep (S2 a) (fun _ => False) (σ'.set ie (some (.ref a))) ((startW Ng.length).set ie (.val (.fn exnK))) H' := set_SRep hlen' hie (by rw [← hS2 a]; rfl) tb'
          refine ⟨_, _, R2, ?_⟩
          unfold runExc at hrs
          cases e0 : evBlk (ev (wCfg Ng sg (gl c)) sg depth).S su ((startW Ng.length).set ie (.val (.fn exnK))) with
          | bad => rw [e0] at hrs; cases hrs
          | exc c' x' ρ' => rw [e0] at hrs; cases hrs
          | ok fl ρ2 =>
            rw [e0] at hrs
            cases fl with
            | nx =>
              intro σ2 F2 H2 P2
              have P3 := P2.gone (set_noOwn _ _ _) ie
              exact ⟨S2 a, rfl, post_run (S := S) (S' := S2 a) (set_noOwn _ _ _) P3 rfl hrs k⟩
            | ret r =>
              obtain ⟨r', er, e1, fd⟩ := fin_inv hrs
              cases er
              intro σ2 F2 H2 P2 v rv nv
              exact k v H2 (P2.extN (set_noOwn _ _ _)) P2.rep.tabs (fl_top fd (peek_top P2.rep rv e1))
      exact go w.cl (fun p hp => hp) hp
    · obtain ⟨t', k⟩ := hok v H' qv
      exact ⟨S, rfl, post_run (S := S) (S' := S) no (Post.refl (hR H' t')) rfl hrun k⟩
  have rk := W.ok
  unfold runOk at rk
  have h00 : (L2.start Ng [V.ref f])[0]? = some (some (V.ref f)) := rfl
  rcases hpre with ⟨e1, rfl⟩ | ⟨wd, w0, q1, q2, q3, k, e1, rfl⟩
  · rw [e1] at rk
    exact ⟨_, htry, core _ _ h00 (startW_noOwn _) (fun H' t => startW_SRep hlen t) rk⟩
  · rw [e1] at rk
    obtain ⟨g1, g2, g3⟩ := W.wd _ e1
    have hiw : iw < Ng.length := (List.getElem?_eq_some_iff.mp g1).1
    refine ⟨_, pss_cons (ps_set (X := X0) (i := iw) nd g1 (.inl g2) pe_str rfl (.inl rfl)) htry, ?_⟩
    exact core _ _ (by rw [List.getElem?_set_ne (by omega)]; exact h00) (set_noOwn _ _ _) (fun H' t => set_SRep (d := .str w0) (v := .str w0) hlen hiw rfl t) rk
end
end Pyd
end

section
set_option Elab.async false
set_option linter.all false
set_option maxRecDepth 100000
set_option maxHeartbeats 4000000
/-! Sym: the same steps as the interpreter takes, without trees: what a def's body comes to. -/
namespace Pyd
open PySem M

def brM {α : Type} (c : Bool) (a b : M α) : M α := match c with | true => a | false => b
def seqM (s rest : M Flow) : M Flow := bnd s fun fl => match fl with | .nx => rest | .ret r => ret (.ret r)
def argsM : List (M Rv) → M (List Rv)
  | [] => ret []
  | e :: es => bnd e fun r => bnd (argsM es) fun rs => ret (r :: rs)
def tupM (es : List (M Rv)) : M Rv := bnd (argsM es) fun rs => bnd (frzs rs) fun ds => guard (okLen ds.length) (ret (.val (.tup ds)))
def lstM (es : List (M Rv)) : M Rv := bnd (argsM es) fun rs => bnd (frzs rs) fun ds => guard (okLen ds.length) (ret (.own (.lst ds)))
def binM (op : Operator) (a b : M Rv) : M Rv := bnd a fun x => bnd b fun y => lift2 (binD op) x y
def unM (op : UnaryOp) (a : M Rv) : M Rv := bnd a fun x => lift1 (unD op) x
def andM : List (M Rv) → M Rv
  | [] => bad
  | [e] => e
  | e :: es => bnd e fun r => bnd (look r) fun d => bnd (opt (truD d)) fun b => match b with | true => andM es | false => ret r
def orM : List (M Rv) → M Rv
  | [] => bad
  | [e] => e
  | e :: es => bnd e fun r => bnd (look r) fun d => bnd (opt (truD d)) fun b => match b with | true => ret r | false => orM es
def andT : List (M Bool) → M Bool
  | [] => bad
  | [e] => e
  | e :: es => bnd e fun b => match b with | true => andT es | false => ret false
def orT : List (M Bool) → M Bool
  | [] => bad
  | [e] => e
  | e :: es => bnd e fun b => match b with | true => ret true | false => orT es
def notT (a : M Bool) : M Bool := bnd a fun b => ret (!b)
def cmp1M (op : CmpOp) (l b : M Rv) : M Rv := bnd l fun x => bnd b fun y => bnd (look x) fun d => bnd (look y) fun e => bnd (opt (cmpD op d e)) fun c => ret (rvB c)
def cmp2M (op op' : CmpOp) (l b c : M Rv) : M Rv := bnd l fun x => bnd b fun y => bnd (look x) fun d => bnd (look y) fun e => bnd (opt (cmpD op d e)) fun k => match k with
    | true => bnd c fun z => bnd (look y) fun e' => bnd (look z) fun g => bnd (opt (cmpD op' e' g)) fun k' => ret (rvB k')
    | false => ret (rvB false)
def rvT (m : M Rv) : M Bool := bnd m fun r => match r with
    | .val (.bl b) => ret b
    | _ => bad
def truT (m : M Rv) : M Bool := bnd m fun r => bnd (look r) fun d => opt (truD d)
def ifE (t : M Bool) (a b : M Rv) : M Rv := bnd t fun c => match c with | true => a | false => b
def ixM (a i : M Rv) : M Rv := bnd a fun r => bnd i fun s => lift2 (fun d k => (ixD d k).map Rv.val) r s
def partM : Option (M Rv) → M (Option Int)
  | none => ret none
  | some e => bnd e fun r => match r with
    | .val (.int i) => ret (some i)
    | _ => bad
def slM (a : M Rv) (lo hi : Option (M Rv)) : M Rv := bnd a fun r => bnd (partM lo) fun l => bnd (partM hi) fun h => lift1 (fun d => slD d l h) r
def compE (it : M (List D)) (vs : List Nat) (g : Sl → M Unit) (t : M Bool) (f : M Rv) : M Rv := bnd it fun ds => compM vs (loopC vs g t f ds)
def callK (R : Nat → List Sl → Out Rv) (fl : List Bool) (k : Nat) (rs : List Rv) : M Rv := guard (decide (lent fl rs).Nodup) (bnd (argsOf fl rs) fun ss ρ =>
  match ((lent fl rs).all fun i => ownSl ρ[i]?) && borAll fl rs ss with
  | true => match R k ss with
    | .ok r ss' => match noVar r && decide (ss'.length = ss.length) with
      | true => .ok r (back fl rs ss' ρ)
      | false => .bad
    | .exc c x ss' => match decide (ss'.length = ss.length) with
      | true => .exc c x (back fl rs ss' ρ)
      | false => .bad
    | .bad => .bad
  | false => .bad)
def callF (R : Nat → List Sl → Out Rv) (fl : List Bool) (k : Nat) (es : List (M Rv)) : M Rv := bnd (argsM es) fun rs => callK R fl k rs
def biM (id : String) (es : List (M Rv)) : M Rv := bnd (argsM es) fun rs => bnd (looks rs) fun ds => opt (biD id ds)
def tyM (id : String) (es : List (M Rv)) : M Rv := bnd (argsM es) fun rs => bnd (looks rs) fun ds => opt (tyD id ds)
def isiM (a : M Rv) (n : String) : M Rv := bnd a fun r => bnd (look r) fun d => bnd (opt (isiD d n)) fun b => ret (rvB b)
def rg1 (a : M Rv) : M (List D) := bnd a fun r => rgM (.val (.int 0)) r
def rg2 (a b : M Rv) : M (List D) := bnd a fun r => bnd b fun s => rgM r s
def rg3 (a b c : M Rv) : M (List D) := bnd a fun r => bnd b fun s => bnd c fun t => rgM3 r s t
def revE (a : M Rv) : M Rv := bnd a fun r => lift1 revD r
def lstRg (m : M (List D)) : M Rv := bnd m fun ds => ret (.own (.lst ds))
def tupRg (m : M (List D)) : M Rv := bnd m fun ds => ret (.val (.tup ds))
def itE (a : M Rv) : M (List D) := bnd a fun r => bnd (frz r) fun d => opt (seqD d)
def enE (a : M Rv) : M (List D) := bnd a fun r => bnd (frz r) fun d => bnd (opt (seqD d)) fun ds => ret (ds.zipIdx.map fun p => D.tup [.int (p.2 : Nat), p.1])
def zpE (a b : M Rv) : M (List D) := bnd a fun r => bnd b fun s => bnd (frzs [r, s]) fun ds => zipM ds
def chM (j : Nat) (m : Str) (es : List (M Rv)) : M Rv := ownThen j (bnd (argsM es) fun rs => bnd (frzs rs) fun ds => chVar j m ds)
def mtM (o : M Rv) (m : Str) (es : List (M Rv)) : M Rv := bnd o fun r => bnd (look r) fun d0 => guard (mtOk m d0) (bnd (argsM es) fun rs => bnd (look r) fun d => guard (alike d0 d) (bnd (looks rs) fun ds => opt (mtD m d ds)))
/- targets -/
def asgs : List (Sl → M Unit) → List Sl → M Unit
  | [], [] => ret ()
  | t :: ts, s :: ss => bnd (t s) fun _ => asgs ts ss
  | _, _ => bad
def tgT (gs : List (Sl → M Unit)) : Sl → M Unit := fun s => match s with
    | .val d => bnd (opt (seqD d)) fun ds => guard (decide (ds.length = gs.length)) (asgs gs (ds.map Sl.val))
    | _ => bad
def tgS (j : Nat) (ix : M Rv) : Sl → M Unit := fun s => match s with
      | .val d => ownThen j (bnd ix fun r => match r with
        | .val (.int k) => putVar j (setD k d)
        | _ => bad)
      | _ => bad
/- statements -/
def asgE (g : Sl → M Unit) (e : M Rv) : M Flow := bnd e fun r => bnd (toSl r) fun s => bnd (g s) fun _ => ret .nx
def parE (gs : List (Sl → M Unit)) (es : List (M Rv)) : M Flow := bnd (argsM es) fun rs => bnd (toSls rs) fun ss => bnd (asgs gs ss) fun _ => ret .nx
def exprM (e : M Rv) : M Flow := bnd e fun _ => ret .nx
def retM (e : M Rv) : M Flow := bnd e fun r => ret (.ret r)
def ifM (t : M Bool) (a b : M Flow) : M Flow := bnd t fun c => match c with | true => a | false => b
def forM (it : M (List D)) (g : Sl → M Unit) (b : M Flow) : M Flow := bnd it fun ds => loopF g b ds
def raisM (x : Str) : M Flow := fun ρ => .exc x none ρ
end Pyd
end

section
set_option Elab.async false
set_option linter.all false
set_option maxRecDepth 100000
set_option maxHeartbeats 4000000
namespace K78
open PySem Pyd L2 Pyd.M
abbrev prog_ : Program := PySem.Challenge.pw_weighhouse_k78_whole_piles_that_stand_or
def top (i : Nat) : Stmt := prog_.main.body.getD i (.Pass ⟨0, 0, 0, 0⟩)
def d_is_integer : Df := ⟨1, ["thing"], defScope (top 1), defBody (top 1), false⟩
def d_is_within : Df := ⟨3, ["thing", "low", "high"], defScope (top 2), defBody (top 2), false⟩
def d_is_sized : Df := ⟨3, ["thing", "low", "high"], defScope (top 3), defBody (top 3), false⟩
def d_common : Df := ⟨2, ["one", "other"], defScope (top 10), defBody (top 10), false⟩
def d_share : Df := ⟨2, ["top", "bottom", "divisor"], defScope (top 11), defBody (top 11), false⟩
def d_is_less : Df := ⟨2, ["one", "other"], defScope (top 12), defBody (top 12), false⟩
def d_is_pile : Df := ⟨1, ["thing", "brick", "a", "b"], defScope (top 19), defBody (top 19), false⟩
def d_check_pile : Df := ⟨1, ["pile"], defScope (top 20), defBody (top 20), false⟩
def d_raw_middle : Df := ⟨3, ["pile", "many", "loads", "weight", "moment", "length", "place", "load"], defScope (top 21), defBody (top 21), false⟩
def d_middle_of : Df := ⟨2, ["pile", "many"], defScope (top 22), defBody (top 22), false⟩
def d_tips_at : Df := ⟨2, ["pile", "loads", "many", "middle", "length", "place"], defScope (top 23), defBody (top 23), false⟩
def d_told : Df := ⟨2, ["pile", "loads", "many"], defScope (top 24), defBody (top 24), false⟩
def d_stands : Df := ⟨1, ["pile"], defScope (top 25), defBody (top 25), false⟩
def d_overhang : Df := ⟨1, ["pile", "length", "place"], defScope (top 26), defBody (top 26), false⟩
def d__law_hand : Df := ⟨1, ["script", "cells", "cell"], defScope (top 28), defBody (top 28), false⟩
def d__law_draw : Df := ⟨2, ["hand", "many", "cell", "digit", "number"], defScope (top 29), defBody (top 29), false⟩
def d__law_any : Df := ⟨2, ["hand", "some"], defScope (top 30), defBody (top 30), false⟩
def d__law_low : Df := ⟨2, ["top", "bottom", "a", "b"], defScope (top 31), defBody (top 31), false⟩
def d__law_deep : Df := ⟨1, ["hand", "deep", "lap"], defScope (top 32), defBody (top 32), false⟩
def d__law_pile : Df := ⟨2, ["hand", "most", "found", "here", "brick", "length"], defScope (top 33), defBody (top 33), false⟩
def d__law_middles : Df := ⟨2, ["pile", "extra", "found", "weight", "whole", "at", "length", "place"], defScope (top 34), defBody (top 34), false⟩
def d__law_tipping : Df := ⟨2, ["pile", "extra", "at", "weight", "whole", "length", "place"], defScope (top 35), defBody (top 35), false⟩
def d__law_is_over : Df := ⟨4, ["low", "length", "weight", "whole"], defScope (top 36), defBody (top 36), false⟩
def d__law_standing : Df := ⟨2, ["hand", "most", "lengths", "brick", "pile", "weight", "whole", "length", "low", "middle", "tries", "one", "back", "place"], defScope (top 37), defBody (top 37), false⟩
def d__law_told_of : Df := ⟨2, ["pile", "extra", "many"], defScope (top 38), defBody (top 38), false⟩
def d__law_no_pile : Df := ⟨1, ["hand", "some"], defScope (top 39), defBody (top 39), false⟩
def d__law_is_right : Df := ⟨2, ["hand", "pile", "due", "many", "weight", "whole", "middle", "reach", "length", "place", "moved"], defScope (top 41), defBody (top 41), false⟩
def d_law : Df := ⟨1, ["script", "hand", "lap", "pile", "none", "bad", "words"], defScope (top 42), defBody (top 42), true⟩
def dfs : List Df := [d_is_integer, d_is_within, d_is_sized, d_common, d_share, d_is_less, d_is_pile, d_check_pile, d_raw_middle, d_middle_of, d_tips_at, d_told, d_stands, d_overhang, d__law_hand, d__law_draw, d__law_any, d__law_low, d__law_deep, d__law_pile, d__law_middles, d__law_tipping, d__law_is_over, d__law_standing, d__law_told_of, d__law_no_pile, d__law_is_right, d_law]
def flagT : List (List Bool) := [[], [], [], [], [], [], [], [], [], [], [], [], [], [], [], [true], [true], [], [true], [true], [], [], [], [true], [], [true], [true], []]
def globs : List (Str × Gb) := [(("is_integer" : Str), Gb.fn 0), (("is_within" : Str), Gb.fn 1), (("is_sized" : Str), Gb.fn 2), (("common" : Str), Gb.fn 3), (("share" : Str), Gb.fn 4), (("is_less" : Str), Gb.fn 5), (("is_pile" : Str), Gb.fn 6), (("check_pile" : Str), Gb.fn 7), (("raw_middle" : Str), Gb.fn 8), (("middle_of" : Str), Gb.fn 9), (("tips_at" : Str), Gb.fn 10), (("told" : Str), Gb.fn 11), (("stands" : Str), Gb.fn 12), (("overhang" : Str), Gb.fn 13), (("_law_hand" : Str), Gb.fn 14), (("_law_draw" : Str), Gb.fn 15), (("_law_any" : Str), Gb.fn 16), (("_law_low" : Str), Gb.fn 17), (("_law_deep" : Str), Gb.fn 18), (("_law_pile" : Str), Gb.fn 19), (("_law_middles" : Str), Gb.fn 20), (("_law_tipping" : Str), Gb.fn 21), (("_law_is_over" : Str), Gb.fn 22), (("_law_standing" : Str), Gb.fn 23), (("_law_told_of" : Str), Gb.fn 24), (("_law_no_pile" : Str), Gb.fn 25), (("_law_is_right" : Str), Gb.fn 26), (("law" : Str), Gb.fn 27), (("_law_said" : Str), Gb.word 0), (("WeighError" : Str), Gb.exc false), (("NoNumber" : Str), Gb.exc false), (("NoPile" : Str), Gb.exc false), (("ZERO" : Str), Gb.const (.tup [.int 0, .int 1])), (("MOST_BRICKS" : Str), Gb.const (.int 8)), (("MOST_LENGTH" : Str), Gb.const (.int 20)), (("MOST_PLACE" : Str), Gb.const (.int 200)), (("STANDS" : Str), Gb.const (.str "stands")), (("TIPS" : Str), Gb.const (.str "tips")), (("isinstance" : Str), Gb.bi "isinstance"), (("len" : Str), Gb.bi "len"), (("abs" : Str), Gb.bi "abs"), (("all" : Str), Gb.bi "all"), (("max" : Str), Gb.bi "max"), (("int" : Str), Gb.ty "int"), (("bool" : Str), Gb.ty "bool"), (("tuple" : Str), Gb.ty "tuple"), (("range" : Str), Gb.ty "range"), (("enumerate" : Str), Gb.ty "enumerate"), (("zip" : Str), Gb.ty "zip")]
def excT : List (Str × D) := [(("NoNumber" : Str), D.str "number"), (("NoPile" : Str), D.str "pile")]
def word0 : WordH := ⟨.str "let", fun c x => match x with | none => excT.lookup c | some _ => none⟩
def P : Prog := ⟨fun k => dfs[k]?, fun x => globs.lookup x, fun k => flagT.getD k [], fun _ => word0⟩
def m_is_integer (R : Nat → List Sl → Out Rv) : M Pyd.Flow :=
  seqM (retM (andM [isiM (varM 0) "int", unM .Not (isiM (varM 0) "bool")])) <| ret .nx
theorem at_is_integer (n : Nat) (a0 : Sl) : lev P (n + 1) 0 [a0] = bodyOut [a0] (m_is_integer (lev P n) [a0]) := by kernel_rfl
def m_is_within (R : Nat → List Sl → Out Rv) : M Pyd.Flow :=
  seqM (retM (andM [callF R [] 0 [varM 0], cmp2M .LtE .LtE (varM 1) (varM 0) (varM 2)])) <| ret .nx
theorem at_is_within (n : Nat) (a0 a1 a2 : Sl) : lev P (n + 1) 1 [a0, a1, a2] = bodyOut [a0, a1, a2] (m_is_within (lev P n) [a0, a1, a2]) := by kernel_rfl
def m_is_sized (R : Nat → List Sl → Out Rv) : M Pyd.Flow :=
  seqM (retM (andM [isiM (varM 0) "tuple", cmp2M .LtE .LtE (varM 1) (biM "len" [varM 0]) (varM 2)])) <| ret .nx
theorem at_is_sized (n : Nat) (a0 a1 a2 : Sl) : lev P (n + 1) 2 [a0, a1, a2] = bodyOut [a0, a1, a2] (m_is_sized (lev P n) [a0, a1, a2]) := by kernel_rfl
def b_common_1 (R : Nat → List Sl → Out Rv) : M Pyd.Flow :=
  seqM (retM (biM "abs" [varM 0])) <|
  ret .nx
def b_common_2 (R : Nat → List Sl → Out Rv) : M Pyd.Flow :=
  seqM (parE [storeAt 0, storeAt 1] [varM 1, binM .Mod (varM 0) (varM 1)]) <|
  ret .nx
def m_common (R : Nat → List Sl → Out Rv) : M Pyd.Flow :=
  seqM (loopW (rvT (cmp1M .NotEq (varM 1) (ret (.val (.int 0))))) (b_common_2 R) 16777216) <|
  b_common_1 R
theorem at_common (n : Nat) (a0 a1 : Sl) : lev P (n + 1) 3 [a0, a1] = bodyOut [a0, a1] (m_common (lev P n) [a0, a1]) := by kernel_rfl
def b_share_1 (R : Nat → List Sl → Out Rv) : M Pyd.Flow :=
  seqM (retM (tupM [binM .FloorDiv (varM 0) (varM 2), binM .FloorDiv (varM 1) (varM 2)])) <|
  ret .nx
def b_share_2 (R : Nat → List Sl → Out Rv) : M Pyd.Flow :=
  seqM (asgE (storeAt 2) (ifE (rvT (cmp1M .Gt (varM 1) (ret (.val (.int 0))))) (varM 2) (binM .Sub (ret (.val (.int 0))) (varM 2)))) <|
  b_share_1 R
def m_share (R : Nat → List Sl → Out Rv) : M Pyd.Flow :=
  seqM (asgE (storeAt 2) (callF R [] 3 [varM 0, varM 1])) <|
  b_share_2 R
theorem at_share (n : Nat) (a0 a1 : Sl) : lev P (n + 1) 4 [a0, a1] = bodyOut [a0, a1] (m_share (lev P n) [a0, a1, .emp]) := by kernel_rfl
def m_is_less (R : Nat → List Sl → Out Rv) : M Pyd.Flow :=
  seqM (retM (cmp1M .Lt (binM .Mult (ixM (varM 0) (ret (.val (.int 0)))) (ixM (varM 1) (ret (.val (.int 1))))) (binM .Mult (ixM (varM 1) (ret (.val (.int 0)))) (ixM (varM 0) (ret (.val (.int 1))))))) <| ret .nx
theorem at_is_less (n : Nat) (a0 a1 : Sl) : lev P (n + 1) 5 [a0, a1] = bodyOut [a0, a1] (m_is_less (lev P n) [a0, a1]) := by kernel_rfl
def b_is_pile_1 (R : Nat → List Sl → Out Rv) : M Pyd.Flow :=
  seqM (retM (biM "all" [compE (itE (varM 0)) [2, 3] (tgT [storeAt 2, storeAt 3]) (ret true) (andM [callF R [] 1 [varM 2, ret (.val (.int 1)), ret (.val (.int 20))], callF R [] 1 [varM 3, binM .Sub (ret (.val (.int 0))) (ret (.val (.int 200))), ret (.val (.int 200))]])])) <|
  ret .nx
def m_is_pile (R : Nat → List Sl → Out Rv) : M Pyd.Flow :=
  seqM (ifM (orT [notT (truT (callF R [] 2 [varM 0, ret (.val (.int 1)), ret (.val (.int 8))])), notT (truT (biM "all" [compE (itE (varM 0)) [1] (storeAt 1) (ret true) (callF R [] 2 [varM 1, ret (.val (.int 2)), ret (.val (.int 2))])]))]) (seqM (retM (ret (.val (.bl false)))) <| ret .nx) (ret .nx)) <|
  b_is_pile_1 R
theorem at_is_pile (n : Nat) (a0 : Sl) : lev P (n + 1) 6 [a0] = bodyOut [a0] (m_is_pile (lev P n) [a0, .emp, .emp, .emp]) := by kernel_rfl
def m_check_pile (R : Nat → List Sl → Out Rv) : M Pyd.Flow :=
  seqM (ifM (notT (truT (callF R [] 6 [varM 0]))) (seqM (raisM "NoPile") <| ret .nx) (ret .nx)) <| ret .nx
theorem at_check_pile (n : Nat) (a0 : Sl) : lev P (n + 1) 7 [a0] = bodyOut [a0] (m_check_pile (lev P n) [a0]) := by kernel_rfl
def b_raw_middle_1 (R : Nat → List Sl → Out Rv) : M Pyd.Flow :=
  seqM (retM (callF R [] 4 [varM 4, binM .Mult (ret (.val (.int 2))) (varM 3)])) <|
  ret .nx
def b_raw_middle_2 (R : Nat → List Sl → Out Rv) : M Pyd.Flow :=
  seqM (augM 4 .Add (binM .Mult (binM .Add (varM 5) (varM 7)) (binM .Add (binM .Mult (ret (.val (.int 2))) (varM 6)) (varM 5)))) <|
  ret .nx
def b_raw_middle_3 (R : Nat → List Sl → Out Rv) : M Pyd.Flow :=
  seqM (augM 3 .Add (binM .Add (varM 5) (varM 7))) <|
  b_raw_middle_2 R
def b_raw_middle_4 (R : Nat → List Sl → Out Rv) : M Pyd.Flow :=
  seqM (forM (zpE (slM (varM 0) none (some (varM 1))) (varM 2)) (tgT [tgT [storeAt 5, storeAt 6], storeAt 7]) (b_raw_middle_3 R)) <|
  b_raw_middle_1 R
def m_raw_middle (R : Nat → List Sl → Out Rv) : M Pyd.Flow :=
  seqM (parE [storeAt 3, storeAt 4] [ret (.val (.int 0)), ret (.val (.int 0))]) <|
  b_raw_middle_4 R
theorem at_raw_middle (n : Nat) (a0 a1 a2 : Sl) : lev P (n + 1) 8 [a0, a1, a2] = bodyOut [a0, a1, a2] (m_raw_middle (lev P n) [a0, a1, a2, .emp, .emp, .emp, .emp, .emp]) := by kernel_rfl
def b_middle_of_1 (R : Nat → List Sl → Out Rv) : M Pyd.Flow :=
  seqM (retM (callF R [] 8 [varM 0, varM 1, binM .Mult (lstM [ret (.val (.int 0))]) (biM "len" [varM 0])])) <|
  ret .nx
def b_middle_of_2 (R : Nat → List Sl → Out Rv) : M Pyd.Flow :=
  seqM (ifM (notT (truT (callF R [] 1 [varM 1, ret (.val (.int 1)), biM "len" [varM 0]]))) (seqM (raisM "NoNumber") <| ret .nx) (ret .nx)) <|
  b_middle_of_1 R
def m_middle_of (R : Nat → List Sl → Out Rv) : M Pyd.Flow :=
  seqM (exprM (callF R [] 7 [varM 0])) <|
  b_middle_of_2 R
theorem at_middle_of (n : Nat) (a0 a1 : Sl) : lev P (n + 1) 9 [a0, a1] = bodyOut [a0, a1] (m_middle_of (lev P n) [a0, a1]) := by kernel_rfl
def b_tips_at_1 (R : Nat → List Sl → Out Rv) : M Pyd.Flow :=
  seqM (retM (ret (.val (.non)))) <|
  ret .nx
def b_tips_at_2 (R : Nat → List Sl → Out Rv) : M Pyd.Flow :=
  seqM (ifM (orT [truT (callF R [] 5 [varM 3, tupM [varM 5, ret (.val (.int 1))]]), truT (callF R [] 5 [tupM [binM .Add (varM 5) (varM 4), ret (.val (.int 1))], varM 3])]) (seqM (retM (varM 2)) <| ret .nx) (ret .nx)) <|
  ret .nx
def b_tips_at_3 (R : Nat → List Sl → Out Rv) : M Pyd.Flow :=
  seqM (ifM (rvT (cmp1M .Eq (varM 2) (biM "len" [varM 0]))) (seqM (ifM (truT (callF R [] 5 [ret (.val (.tup [.int 0, .int 1])), varM 3])) (seqM (retM (varM 2)) <| ret .nx) (ret .nx)) <| ret .nx) (seqM (asgE (tgT [storeAt 4, storeAt 5]) (ixM (varM 0) (varM 2))) <|
  b_tips_at_2 R)) <|
  ret .nx
def b_tips_at_4 (R : Nat → List Sl → Out Rv) : M Pyd.Flow :=
  seqM (asgE (storeAt 3) (callF R [] 8 [varM 0, varM 2, varM 1])) <|
  b_tips_at_3 R
def m_tips_at (R : Nat → List Sl → Out Rv) : M Pyd.Flow :=
  seqM (forM (rg2 (ret (.val (.int 1))) (binM .Add (biM "len" [varM 0]) (ret (.val (.int 1))))) (storeAt 2) (b_tips_at_4 R)) <|
  b_tips_at_1 R
theorem at_tips_at (n : Nat) (a0 a1 : Sl) : lev P (n + 1) 10 [a0, a1] = bodyOut [a0, a1] (m_tips_at (lev P n) [a0, a1, .emp, .emp, .emp, .emp]) := by kernel_rfl
def b_told_1 (R : Nat → List Sl → Out Rv) : M Pyd.Flow :=
  seqM (retM (ifE (rvT (cmp1M .Is (varM 2) (ret (.val (.non))))) (tupM [ret (.val (.str "stands"))]) (tupM [ret (.val (.str "tips")), varM 2]))) <|
  ret .nx
def m_told (R : Nat → List Sl → Out Rv) : M Pyd.Flow :=
  seqM (asgE (storeAt 2) (callF R [] 10 [varM 0, varM 1])) <|
  b_told_1 R
theorem at_told (n : Nat) (a0 a1 : Sl) : lev P (n + 1) 11 [a0, a1] = bodyOut [a0, a1] (m_told (lev P n) [a0, a1, .emp]) := by kernel_rfl
def b_stands_1 (R : Nat → List Sl → Out Rv) : M Pyd.Flow :=
  seqM (retM (callF R [] 11 [varM 0, binM .Mult (lstM [ret (.val (.int 0))]) (biM "len" [varM 0])])) <|
  ret .nx
def m_stands (R : Nat → List Sl → Out Rv) : M Pyd.Flow :=
  seqM (exprM (callF R [] 7 [varM 0])) <|
  b_stands_1 R
theorem at_stands (n : Nat) (a0 : Sl) : lev P (n + 1) 12 [a0] = bodyOut [a0] (m_stands (lev P n) [a0]) := by kernel_rfl
def b_overhang_1 (R : Nat → List Sl → Out Rv) : M Pyd.Flow :=
  seqM (retM (biM "max" [binM .Add (lstM [ret (.val (.int 0))]) (compE (itE (varM 0)) [1, 2] (tgT [storeAt 1, storeAt 2]) (ret true) (binM .Add (varM 2) (varM 1)))])) <|
  ret .nx
def m_overhang (R : Nat → List Sl → Out Rv) : M Pyd.Flow :=
  seqM (exprM (callF R [] 7 [varM 0])) <|
  b_overhang_1 R
theorem at_overhang (n : Nat) (a0 : Sl) : lev P (n + 1) 13 [a0] = bodyOut [a0] (m_overhang (lev P n) [a0, .emp, .emp]) := by kernel_rfl
def b__law_hand_1 (R : Nat → List Sl → Out Rv) : M Pyd.Flow :=
  seqM (retM (lstM [varM 1, ret (.val (.int 0)), ret (.val (.int 0)), binM .Add (ret (.val (.int 83))) (binM .Mult (ret (.val (.int 5))) (biM "len" [varM 1])), ret (.val (.int 0))])) <|
  ret .nx
def m__law_hand (R : Nat → List Sl → Out Rv) : M Pyd.Flow :=
  seqM (asgE (storeAt 1) (compE (itE (slM (varM 0) none (some (ret (.val (.int 63)))))) [2] (storeAt 2) (ret true) (biM "abs" [tyM "int" [varM 2]]))) <|
  b__law_hand_1 R
theorem at__law_hand (n : Nat) (a0 : Sl) : lev P (n + 1) 14 [a0] = bodyOut [a0] (m__law_hand (lev P n) [a0, .emp, .emp]) := by kernel_rfl
def b__law_draw_1 (R : Nat → List Sl → Out Rv) : M Pyd.Flow :=
  seqM (retM (binM .Mod (tyM "int" [binM .FloorDiv (varM 4) (ret (.val (.int 16)))]) (varM 1))) <|
  ret .nx
def b__law_draw_2 (R : Nat → List Sl → Out Rv) : M Pyd.Flow :=
  seqM (asgE (storeAt 4) (binM .Mod (tyM "int" [binM .Mult (varM 4) (binM .Add (binM .FloorDiv (varM 4) (ret (.val (.int 2003)))) (ret (.val (.int 40014))))]) (ret (.val (.int 2147483563))))) <|
  b__law_draw_1 R
def b__law_draw_3 (R : Nat → List Sl → Out Rv) : M Pyd.Flow :=
  seqM (asgE (storeAt 4) (binM .Mod (tyM "int" [binM .Mult (varM 4) (binM .Add (binM .FloorDiv (varM 4) (ret (.val (.int 1009)))) (ret (.val (.int 69621))))]) (ret (.val (.int 2147483647))))) <|
  b__law_draw_2 R
def b__law_draw_4 (R : Nat → List Sl → Out Rv) : M Pyd.Flow :=
  seqM (asgE (storeAt 4) (binM .Mod (tyM "int" [binM .Mult (tyM "int" [binM .Add (ixM (varM 0) (ret (.val (.int 3)))) (binM .Mult (ret (.val (.int 7919))) (ixM (varM 0) (ret (.val (.int 4)))))]) (ret (.val (.int 48271)))]) (ret (.val (.int 2147483647))))) <|
  b__law_draw_3 R
def b__law_draw_5 (R : Nat → List Sl → Out Rv) : M Pyd.Flow :=
  seqM (asgE (tgS 0 (ret (.val (.int 4)))) (binM .Add (ixM (varM 0) (ret (.val (.int 4)))) (ret (.val (.int 1))))) <|
  b__law_draw_4 R
def b__law_draw_6 (R : Nat → List Sl → Out Rv) : M Pyd.Flow :=
  seqM (retM (varM 3)) <|
  ret .nx
def b__law_draw_7 (R : Nat → List Sl → Out Rv) : M Pyd.Flow :=
  seqM (asgE (tgS 0 (ret (.val (.int 2)))) (binM .FloorDiv (ixM (varM 0) (ret (.val (.int 2)))) (varM 1))) <|
  b__law_draw_6 R
def b__law_draw_8 (R : Nat → List Sl → Out Rv) : M Pyd.Flow :=
  seqM (ifM (rvT (cmp1M .Gt (ixM (varM 0) (ret (.val (.int 2)))) (ret (.val (.int 0))))) (seqM (asgE (storeAt 3) (binM .Mod (tyM "int" [ixM (varM 0) (ret (.val (.int 2)))]) (varM 1))) <|
  b__law_draw_7 R) (ret .nx)) <|
  b__law_draw_5 R
def b__law_draw_9 (R : Nat → List Sl → Out Rv) : M Pyd.Flow :=
  seqM (ifM (rvT (cmp1M .GtE (varM 2) (binM .Pow (ret (.val (.int 10))) (ret (.val (.int 18)))))) (seqM (asgE (tgS 0 (ret (.val (.int 2)))) (varM 2)) <| ret .nx) (ret .nx)) <|
  ret .nx
def b__law_draw_10 (R : Nat → List Sl → Out Rv) : M Pyd.Flow :=
  seqM (asgE (tgS 0 (ret (.val (.int 3)))) (binM .Mod (tyM "int" [binM .Add (binM .Add (binM .Mult (ixM (varM 0) (ret (.val (.int 3)))) (ret (.val (.int 69621)))) (binM .Mult (varM 2) (ret (.val (.int 40692))))) (ret (.val (.int 17)))]) (ret (.val (.int 2147483629))))) <|
  b__law_draw_9 R
def b__law_draw_11 (R : Nat → List Sl → Out Rv) : M Pyd.Flow :=
  seqM (asgE (tgS 0 (ret (.val (.int 1)))) (binM .Add (ixM (varM 0) (ret (.val (.int 1)))) (ret (.val (.int 1))))) <|
  b__law_draw_10 R
def m__law_draw (R : Nat → List Sl → Out Rv) : M Pyd.Flow :=
  seqM (ifM (andT [rvT (cmp1M .Eq (ixM (varM 0) (ret (.val (.int 2)))) (ret (.val (.int 0)))), rvT (cmp1M .Lt (ixM (varM 0) (ret (.val (.int 1)))) (biM "len" [ixM (varM 0) (ret (.val (.int 0)))]))]) (seqM (asgE (storeAt 2) (ixM (ixM (varM 0) (ret (.val (.int 0)))) (ixM (varM 0) (ret (.val (.int 1)))))) <|
  b__law_draw_11 R) (ret .nx)) <|
  b__law_draw_8 R
theorem at__law_draw (n : Nat) (a0 a1 : Sl) : lev P (n + 1) 15 [a0, a1] = bodyOut [a0, a1] (m__law_draw (lev P n) [a0, a1, .emp, .emp, .emp]) := by kernel_rfl
def m__law_any (R : Nat → List Sl → Out Rv) : M Pyd.Flow :=
  seqM (retM (ixM (varM 1) (callF R [true] 15 [varM 0, biM "len" [varM 1]]))) <| ret .nx
theorem at__law_any (n : Nat) (a0 a1 : Sl) : lev P (n + 1) 16 [a0, a1] = bodyOut [a0, a1] (m__law_any (lev P n) [a0, a1]) := by kernel_rfl
def b__law_low_1 (R : Nat → List Sl → Out Rv) : M Pyd.Flow :=
  seqM (retM (tupM [binM .FloorDiv (varM 0) (varM 2), binM .FloorDiv (varM 1) (varM 2)])) <|
  ret .nx
def b__law_low_2 (R : Nat → List Sl → Out Rv) : M Pyd.Flow :=
  seqM (parE [storeAt 2, storeAt 3] [varM 3, binM .Mod (tyM "int" [varM 2]) (varM 3)]) <|
  ret .nx
def b__law_low_3 (R : Nat → List Sl → Out Rv) : M Pyd.Flow :=
  seqM (loopW (rvT (cmp1M .Gt (varM 3) (ret (.val (.int 0))))) (b__law_low_2 R) 16777216) <|
  b__law_low_1 R
def m__law_low (R : Nat → List Sl → Out Rv) : M Pyd.Flow :=
  seqM (parE [storeAt 2, storeAt 3] [biM "abs" [varM 0], varM 1]) <|
  b__law_low_3 R
theorem at__law_low (n : Nat) (a0 a1 : Sl) : lev P (n + 1) 17 [a0, a1] = bodyOut [a0, a1] (m__law_low (lev P n) [a0, a1, .emp, .emp]) := by kernel_rfl
def b__law_deep_1 (R : Nat → List Sl → Out Rv) : M Pyd.Flow :=
  seqM (retM (varM 1)) <|
  ret .nx
def b__law_deep_2 (R : Nat → List Sl → Out Rv) : M Pyd.Flow :=
  seqM (asgE (storeAt 1) (ifE (rvT (cmp1M .Eq (callF R [true] 15 [varM 0, ret (.val (.int 2))]) (ret (.val (.int 0))))) (lstM [varM 1]) (tupM [varM 1]))) <|
  ret .nx
def b__law_deep_3 (R : Nat → List Sl → Out Rv) : M Pyd.Flow :=
  seqM (forM (rg1 (binM .Add (ret (.val (.int 5))) (callF R [true] 15 [varM 0, ret (.val (.int 26))]))) (storeAt 2) (b__law_deep_2 R)) <|
  b__law_deep_1 R
def m__law_deep (R : Nat → List Sl → Out Rv) : M Pyd.Flow :=
  seqM (asgE (storeAt 1) (callF R [true] 16 [varM 0, lstM [ret (.val (.non)), ret (.val (.str "X")), ret (.val .emp)]])) <|
  b__law_deep_3 R
theorem at__law_deep (n : Nat) (a0 : Sl) : lev P (n + 1) 18 [a0] = bodyOut [a0] (m__law_deep (lev P n) [a0, .emp, .emp]) := by kernel_rfl
def b__law_pile_1 (R : Nat → List Sl → Out Rv) : M Pyd.Flow :=
  seqM (retM (tyM "tuple" [varM 2])) <|
  ret .nx
def b__law_pile_2 (R : Nat → List Sl → Out Rv) : M Pyd.Flow :=
  seqM (asgE (storeAt 3) (binM .Add (binM .Sub (varM 3) (callF R [true] 15 [varM 0, callF R [true] 16 [varM 0, lstM [ret (.val (.int 3)), ret (.val (.int 9))]]])) (callF R [true] 15 [varM 0, ret (.val (.int 2))]))) <|
  ret .nx
def b__law_pile_3 (R : Nat → List Sl → Out Rv) : M Pyd.Flow :=
  seqM (exprM (chM 2 "append" [tupM [varM 5, varM 3]])) <|
  b__law_pile_2 R
def b__law_pile_4 (R : Nat → List Sl → Out Rv) : M Pyd.Flow :=
  seqM (asgE (storeAt 5) (binM .Add (ret (.val (.int 1))) (callF R [true] 15 [varM 0, callF R [true] 16 [varM 0, lstM [ret (.val (.int 4)), ret (.val (.int 20))]]]))) <|
  b__law_pile_3 R
def b__law_pile_5 (R : Nat → List Sl → Out Rv) : M Pyd.Flow :=
  seqM (forM (rg1 (binM .Add (ret (.val (.int 1))) (callF R [true] 15 [varM 0, varM 1]))) (storeAt 4) (b__law_pile_4 R)) <|
  b__law_pile_1 R
def m__law_pile (R : Nat → List Sl → Out Rv) : M Pyd.Flow :=
  seqM (parE [storeAt 2, storeAt 3] [lstM [], binM .Sub (callF R [true] 15 [varM 0, ret (.val (.int 9))]) (ret (.val (.int 4)))]) <|
  b__law_pile_5 R
theorem at__law_pile (n : Nat) (a0 a1 : Sl) : lev P (n + 1) 19 [a0, a1] = bodyOut [a0, a1] (m__law_pile (lev P n) [a0, a1, .emp, .emp, .emp, .emp]) := by kernel_rfl
def b__law_middles_1 (R : Nat → List Sl → Out Rv) : M Pyd.Flow :=
  seqM (retM (varM 2)) <|
  ret .nx
def b__law_middles_2 (R : Nat → List Sl → Out Rv) : M Pyd.Flow :=
  seqM (exprM (chM 2 "append" [tupM [varM 3, varM 4]])) <|
  ret .nx
def b__law_middles_3 (R : Nat → List Sl → Out Rv) : M Pyd.Flow :=
  seqM (asgE (storeAt 4) (binM .Add (varM 4) (binM .Mult (binM .Add (varM 6) (ixM (varM 1) (varM 5))) (binM .Add (binM .Mult (ret (.val (.int 2))) (varM 7)) (varM 6))))) <|
  b__law_middles_2 R
def b__law_middles_4 (R : Nat → List Sl → Out Rv) : M Pyd.Flow :=
  seqM (asgE (storeAt 3) (binM .Add (binM .Add (varM 3) (varM 6)) (ixM (varM 1) (varM 5)))) <|
  b__law_middles_3 R
def b__law_middles_5 (R : Nat → List Sl → Out Rv) : M Pyd.Flow :=
  seqM (forM (enE (varM 0)) (tgT [storeAt 5, tgT [storeAt 6, storeAt 7]]) (b__law_middles_4 R)) <|
  b__law_middles_1 R
def m__law_middles (R : Nat → List Sl → Out Rv) : M Pyd.Flow :=
  seqM (parE [storeAt 2, storeAt 3, storeAt 4] [lstM [], ret (.val (.int 0)), ret (.val (.int 0))]) <|
  b__law_middles_5 R
theorem at__law_middles (n : Nat) (a0 a1 : Sl) : lev P (n + 1) 20 [a0, a1] = bodyOut [a0, a1] (m__law_middles (lev P n) [a0, a1, .emp, .emp, .emp, .emp, .emp, .emp]) := by kernel_rfl
def b__law_tipping_1 (R : Nat → List Sl → Out Rv) : M Pyd.Flow :=
  seqM (retM (ret (.val (.non)))) <|
  ret .nx
def b__law_tipping_2 (R : Nat → List Sl → Out Rv) : M Pyd.Flow :=
  seqM (ifM (orT [rvT (cmp1M .Lt (varM 4) (binM .Mult (binM .Mult (ret (.val (.int 2))) (varM 6)) (varM 3))), rvT (cmp1M .Gt (varM 4) (binM .Mult (binM .Mult (ret (.val (.int 2))) (binM .Add (varM 6) (varM 5))) (varM 3)))]) (seqM (retM (binM .Add (varM 2) (ret (.val (.int 1))))) <| ret .nx) (ret .nx)) <|
  ret .nx
def b__law_tipping_3 (R : Nat → List Sl → Out Rv) : M Pyd.Flow :=
  seqM (ifM (rvT (cmp1M .Lt (varM 2) (binM .Sub (biM "len" [varM 0]) (ret (.val (.int 1)))))) (seqM (asgE (tgT [storeAt 5, storeAt 6]) (ixM (varM 0) (binM .Add (varM 2) (ret (.val (.int 1)))))) <|
  b__law_tipping_2 R) (seqM (ifM (rvT (cmp1M .Gt (varM 4) (ret (.val (.int 0))))) (seqM (retM (binM .Add (varM 2) (ret (.val (.int 1))))) <| ret .nx) (ret .nx)) <| ret .nx)) <|
  ret .nx
def m__law_tipping (R : Nat → List Sl → Out Rv) : M Pyd.Flow :=
  seqM (forM (enE (callF R [] 20 [varM 0, varM 1])) (tgT [storeAt 2, tgT [storeAt 3, storeAt 4]]) (b__law_tipping_3 R)) <|
  b__law_tipping_1 R
theorem at__law_tipping (n : Nat) (a0 a1 : Sl) : lev P (n + 1) 21 [a0, a1] = bodyOut [a0, a1] (m__law_tipping (lev P n) [a0, a1, .emp, .emp, .emp, .emp, .emp]) := by kernel_rfl
def m__law_is_over (R : Nat → List Sl → Out Rv) : M Pyd.Flow :=
  seqM (retM (cmp2M .LtE .LtE (binM .Mult (binM .Mult (ret (.val (.int 2))) (varM 0)) (varM 2)) (varM 3) (binM .Mult (binM .Mult (ret (.val (.int 2))) (binM .Add (varM 0) (varM 1))) (varM 2)))) <| ret .nx
theorem at__law_is_over (n : Nat) (a0 a1 a2 a3 : Sl) : lev P (n + 1) 22 [a0, a1, a2, a3] = bodyOut [a0, a1, a2, a3] (m__law_is_over (lev P n) [a0, a1, a2, a3]) := by kernel_rfl
def b__law_standing_1 (R : Nat → List Sl → Out Rv) : M Pyd.Flow :=
  seqM (retM (tyM "tuple" [compE (itE (varM 4)) [7, 13] (tgT [storeAt 7, storeAt 13]) (ret true) (tupM [varM 7, binM .Sub (varM 13) (varM 12)])])) <|
  ret .nx
def b__law_standing_2 (R : Nat → List Sl → Out Rv) : M Pyd.Flow :=
  seqM (asgE (storeAt 12) (binM .Add (binM .Sub (ret (.val (.int 0))) (binM .FloorDiv (binM .Sub (ret (.val (.int 0))) (varM 6)) (binM .Mult (ret (.val (.int 2))) (varM 5)))) (callF R [true] 16 [varM 0, lstM [ret (.val (.int 0)), ret (.val (.int 0)), ret (.val (.int 1)), ret (.val (.int 3))]]))) <|
  b__law_standing_1 R
def b__law_standing_3 (R : Nat → List Sl → Out Rv) : M Pyd.Flow :=
  seqM (asgE (storeAt 6) (binM .Add (varM 6) (binM .Mult (varM 7) (binM .Add (binM .Mult (ret (.val (.int 2))) (varM 8)) (varM 7))))) <|
  ret .nx
def b__law_standing_4 (R : Nat → List Sl → Out Rv) : M Pyd.Flow :=
  seqM (asgE (storeAt 5) (binM .Add (varM 5) (varM 7))) <|
  b__law_standing_3 R
def b__law_standing_5 (R : Nat → List Sl → Out Rv) : M Pyd.Flow :=
  seqM (exprM (chM 4 "append" [tupM [varM 7, varM 8]])) <|
  b__law_standing_4 R
def b__law_standing_6 (R : Nat → List Sl → Out Rv) : M Pyd.Flow :=
  seqM (asgE (storeAt 8) (ixM (compE (itE (varM 10)) [11] (storeAt 11) (truT (callF R [] 22 [varM 11, varM 7, varM 5, varM 6])) (varM 11)) (ret (.val (.int 0))))) <|
  ret .nx
def b__law_standing_7 (R : Nat → List Sl → Out Rv) : M Pyd.Flow :=
  seqM (asgE (storeAt 10) (lstM [binM .Sub (varM 9) (callF R [true] 15 [varM 0, binM .Add (varM 7) (ret (.val (.int 1)))]), binM .Sub (varM 9) (binM .FloorDiv (varM 7) (ret (.val (.int 2)))), varM 9])) <|
  b__law_standing_6 R
def b__law_standing_8 (R : Nat → List Sl → Out Rv) : M Pyd.Flow :=
  seqM (ifM (rvT (cmp1M .Gt (varM 5) (ret (.val (.int 0))))) (seqM (asgE (storeAt 9) (binM .FloorDiv (varM 6) (binM .Mult (ret (.val (.int 2))) (varM 5)))) <|
  b__law_standing_7 R) (ret .nx)) <|
  b__law_standing_5 R
def b__law_standing_9 (R : Nat → List Sl → Out Rv) : M Pyd.Flow :=
  seqM (asgE (storeAt 8) (ret (.val (.int 0)))) <|
  b__law_standing_8 R
def b__law_standing_10 (R : Nat → List Sl → Out Rv) : M Pyd.Flow :=
  seqM (forM (itE (varM 2)) (storeAt 7) (b__law_standing_9 R)) <|
  b__law_standing_2 R
def b__law_standing_11 (R : Nat → List Sl → Out Rv) : M Pyd.Flow :=
  seqM (parE [storeAt 4, storeAt 5, storeAt 6] [lstM [], ret (.val (.int 0)), ret (.val (.int 0))]) <|
  b__law_standing_10 R
def m__law_standing (R : Nat → List Sl → Out Rv) : M Pyd.Flow :=
  seqM (asgE (storeAt 2) (compE (rg1 (binM .Add (ret (.val (.int 1))) (callF R [true] 15 [varM 0, varM 1]))) [3] (storeAt 3) (ret true) (binM .Add (ret (.val (.int 1))) (callF R [true] 15 [varM 0, callF R [true] 16 [varM 0, lstM [ret (.val (.int 4)), ret (.val (.int 12))]]])))) <|
  b__law_standing_11 R
theorem at__law_standing (n : Nat) (a0 a1 : Sl) : lev P (n + 1) 23 [a0, a1] = bodyOut [a0, a1] (m__law_standing (lev P n) [a0, a1, .emp, .emp, .emp, .emp, .emp, .emp, .emp, .emp, .emp, .emp, .emp, .emp]) := by kernel_rfl
def b__law_told_of_1 (R : Nat → List Sl → Out Rv) : M Pyd.Flow :=
  seqM (retM (ifE (rvT (cmp1M .Is (varM 2) (ret (.val (.non))))) (tupM [ret (.val (.str "stands"))]) (tupM [ret (.val (.str "tips")), varM 2]))) <|
  ret .nx
def m__law_told_of (R : Nat → List Sl → Out Rv) : M Pyd.Flow :=
  seqM (asgE (storeAt 2) (callF R [] 21 [varM 0, varM 1])) <|
  b__law_told_of_1 R
theorem at__law_told_of (n : Nat) (a0 a1 : Sl) : lev P (n + 1) 24 [a0, a1] = bodyOut [a0, a1] (m__law_told_of (lev P n) [a0, a1, .emp]) := by kernel_rfl
def b__law_no_pile_1 (R : Nat → List Sl → Out Rv) : M Pyd.Flow :=
  seqM (retM (callF R [true] 16 [varM 0, binM .Add (varM 1) (lstM [binM .Mult (tupM [tupM [ret (.val (.int 2)), ret (.val (.int 0))]]) (ret (.val (.int 9))), tupM [ret (.val (.int 2)), ret (.val (.int 0))], ret (.val (.str "2@0")), ret (.val (.int 0)), ret (.val .emp), callF R [true] 18 [varM 0]])])) <|
  ret .nx
def m__law_no_pile (R : Nat → List Sl → Out Rv) : M Pyd.Flow :=
  seqM (asgE (storeAt 1) (lstM [ret (.val (.non)), tupM [], lstM [tupM [ret (.val (.int 2)), ret (.val (.int 0))]], tupM [tupM [ret (.val (.int 0)), ret (.val (.int 0))]], tupM [tupM [ret (.val (.int 21)), ret (.val (.int 0))]], tupM [tupM [ret (.val (.int 2)), ret (.val (.int 201))]], tupM [tupM [ret (.val (.int 2))]], tupM [tupM [ret (.val (.bl true)), ret (.val (.int 0))]], tupM [tupM [ret (.val (.int 2)), ret (.val (.non))]]])) <|
  b__law_no_pile_1 R
theorem at__law_no_pile (n : Nat) (a0 : Sl) : lev P (n + 1) 25 [a0] = bodyOut [a0] (m__law_no_pile (lev P n) [a0, .emp]) := by kernel_rfl
def b__law_is_right_1 (R : Nat → List Sl → Out Rv) : M Pyd.Flow :=
  seqM (retM (orM [cmp1M .Eq (ixM (varM 2) (ret (.val (.int 0)))) (ret (.val (.str "stands"))), cmp1M .Eq (ixM (varM 2) (ret (.val (.int 1)))) (biM "len" [varM 1]), cmp1M .Eq (callF R [] 12 [varM 10]) (varM 2)])) <|
  ret .nx
def b__law_is_right_2 (R : Nat → List Sl → Out Rv) : M Pyd.Flow :=
  seqM (ifM (andT [rvT (cmp1M .Eq (varM 2) (tupM [ret (.val (.str "stands"))])), rvT (cmp1M .NotEq (callF R [] 12 [varM 10]) (varM 2))]) (seqM (retM (ret (.val (.bl false)))) <| ret .nx) (ret .nx)) <|
  b__law_is_right_1 R
def b__law_is_right_3 (R : Nat → List Sl → Out Rv) : M Pyd.Flow :=
  seqM (asgE (storeAt 10) (tyM "tuple" [compE (itE (varM 1)) [8, 9] (tgT [storeAt 8, storeAt 9]) (ret true) (tupM [varM 8, binM .Sub (varM 9) (ret (.val (.int 3)))])])) <|
  b__law_is_right_2 R
def b__law_is_right_4 (R : Nat → List Sl → Out Rv) : M Pyd.Flow :=
  seqM (ifM (rvT (cmp1M .NotEq (lstM [callF R [] 13 [varM 1], callF R [] 13 [varM 1]]) (lstM [varM 7, varM 7]))) (seqM (retM (ret (.val (.bl false)))) <| ret .nx) (ret .nx)) <|
  b__law_is_right_3 R
def b__law_is_right_5 (R : Nat → List Sl → Out Rv) : M Pyd.Flow :=
  seqM (asgE (storeAt 7) (biM "max" [binM .Add (lstM [ret (.val (.int 0))]) (compE (itE (varM 1)) [8, 9] (tgT [storeAt 8, storeAt 9]) (ret true) (binM .Add (varM 9) (varM 8)))])) <|
  b__law_is_right_4 R
def b__law_is_right_6 (R : Nat → List Sl → Out Rv) : M Pyd.Flow :=
  seqM (ifM (rvT (cmp1M .NotEq (lstM [callF R [] 9 [varM 1, varM 3], callF R [] 9 [varM 1, varM 3]]) (lstM [varM 6, varM 6]))) (seqM (retM (ret (.val (.bl false)))) <| ret .nx) (ret .nx)) <|
  b__law_is_right_5 R
def b__law_is_right_7 (R : Nat → List Sl → Out Rv) : M Pyd.Flow :=
  seqM (asgE (storeAt 6) (callF R [] 17 [varM 5, binM .Mult (ret (.val (.int 2))) (varM 4)])) <|
  b__law_is_right_6 R
def b__law_is_right_8 (R : Nat → List Sl → Out Rv) : M Pyd.Flow :=
  seqM (asgE (tgT [storeAt 4, storeAt 5]) (ixM (callF R [] 20 [varM 1, binM .Mult (lstM [ret (.val (.int 0))]) (biM "len" [varM 1])]) (binM .Sub (varM 3) (ret (.val (.int 1)))))) <|
  b__law_is_right_7 R
def b__law_is_right_9 (R : Nat → List Sl → Out Rv) : M Pyd.Flow :=
  seqM (ifM (orT [rvT (cmp1M .NotEq (lstM [callF R [] 12 [varM 1], callF R [] 12 [varM 1]]) (lstM [varM 2, varM 2])), rvT (cmp1M .IsNot (callF R [] 6 [varM 1]) (ret (.val (.bl true))))]) (seqM (retM (ret (.val (.bl false)))) <| ret .nx) (ret .nx)) <|
  b__law_is_right_8 R
def m__law_is_right (R : Nat → List Sl → Out Rv) : M Pyd.Flow :=
  seqM (parE [storeAt 2, storeAt 3] [callF R [] 24 [varM 1, binM .Mult (lstM [ret (.val (.int 0))]) (biM "len" [varM 1])], binM .Add (ret (.val (.int 1))) (callF R [true] 15 [varM 0, biM "len" [varM 1]])]) <|
  b__law_is_right_9 R
theorem at__law_is_right (n : Nat) (a0 a1 : Sl) : lev P (n + 1) 26 [a0, a1] = bodyOut [a0, a1] (m__law_is_right (lev P n) [a0, a1, .emp, .emp, .emp, .emp, .emp, .emp, .emp, .emp, .emp]) := by kernel_rfl
def b_law_1 (R : Nat → List Sl → Out Rv) : M Pyd.Flow :=
  seqM (retM (ret (.val (.bl true)))) <|
  ret .nx
def b_law_2 (R : Nat → List Sl → Out Rv) : M Pyd.Flow :=
  seqM (ifM (orT [rvT (cmp1M .NotEq (varM 6) (lstM [ret (.val (.str "pile")), ret (.val (.str "number")), ret (.val (.str "pile")), ret (.val (.str "pile"))])), rvT (cmp1M .IsNot (callF R [] 6 [varM 4]) (ret (.val (.bl false))))]) (seqM (retM (ret (.val (.bl false)))) <| ret .nx) (ret .nx)) <|
  ret .nx
def b_law_3 (R : Nat → List Sl → Out Rv) : M Pyd.Flow :=
  seqM (exprM (chM 6 "append" [lamM word0 (callF R [] 13 [varM 4])])) <|
  b_law_2 R
def b_law_4 (R : Nat → List Sl → Out Rv) : M Pyd.Flow :=
  seqM (exprM (chM 6 "append" [lamM word0 (callF R [] 12 [varM 4])])) <|
  b_law_3 R
def b_law_5 (R : Nat → List Sl → Out Rv) : M Pyd.Flow :=
  seqM (asgE (storeAt 6) (lstM [lamM word0 (callF R [] 9 [varM 4, varM 5]), lamM word0 (callF R [] 9 [varM 3, varM 5])])) <|
  b_law_4 R
def b_law_6 (R : Nat → List Sl → Out Rv) : M Pyd.Flow :=
  seqM (parE [storeAt 4, storeAt 5] [callF R [true] 25 [varM 1], callF R [true] 16 [varM 1, lstM [ret (.val (.int 0)), binM .Add (biM "len" [varM 3]) (ret (.val (.int 1))), unM .USub (ret (.val (.int 1))), ret (.val (.non)), ret (.val (.bl true)), ret (.val (.str "1"))]]]) <|
  b_law_5 R
def b_law_7 (R : Nat → List Sl → Out Rv) : M Pyd.Flow :=
  seqM (ifM (orT [rvT (cmp1M .NotEq (callF R [] 12 [varM 3]) (tupM [ret (.val (.str "stands"))])), notT (truT (callF R [true] 26 [varM 1, varM 3]))]) (seqM (retM (ret (.val (.bl false)))) <| ret .nx) (ret .nx)) <|
  b_law_6 R
def b_law_8 (R : Nat → List Sl → Out Rv) : M Pyd.Flow :=
  seqM (asgE (storeAt 3) (callF R [true] 23 [varM 1, ret (.val (.int 8))])) <|
  b_law_7 R
def b_law_9 (R : Nat → List Sl → Out Rv) : M Pyd.Flow :=
  seqM (ifM (notT (truT (callF R [true] 26 [varM 1, callF R [true] 19 [varM 1, ret (.val (.int 8))]]))) (seqM (retM (ret (.val (.bl false)))) <| ret .nx) (ret .nx)) <|
  b_law_8 R
def b_law_10 (R : Nat → List Sl → Out Rv) : M Pyd.Flow :=
  seqM (forM (rg1 (ret (.val (.int 8)))) (storeAt 2) (b_law_9 R)) <|
  b_law_1 R
def b_law_11 (R : Nat → List Sl → Out Rv) : M Pyd.Flow :=
  seqM (ifM (orT [rvT (cmp1M .NotEq (callF R [] 12 [tupM [tupM [ret (.val (.int 2)), unM .USub (ret (.val (.int 1)))], tupM [ret (.val (.int 2)), unM .USub (ret (.val (.int 2)))], tupM [ret (.val (.int 2)), unM .USub (ret (.val (.int 2)))]]]) (tupM [ret (.val (.str "stands"))])), rvT (cmp1M .NotEq (callF R [] 9 [tupM [tupM [ret (.val (.int 2)), ret (.val (.int 0))], tupM [ret (.val (.int 4)), unM .USub (ret (.val (.int 3)))]], ret (.val (.int 2))]) (tupM [unM .USub (ret (.val (.int 1))), ret (.val (.int 3))]))]) (seqM (retM (ret (.val (.bl false)))) <| ret .nx) (ret .nx)) <|
  b_law_10 R
def b_law_12 (R : Nat → List Sl → Out Rv) : M Pyd.Flow :=
  seqM (ifM (orT [rvT (cmp1M .NotEq (callF R [] 12 [tupM [tupM [ret (.val (.int 2)), unM .USub (ret (.val (.int 1)))]]]) (tupM [ret (.val (.str "stands"))])), rvT (cmp1M .NotEq (callF R [] 12 [tupM [tupM [ret (.val (.int 2)), ret (.val (.int 0))]]]) (tupM [ret (.val (.str "tips")), ret (.val (.int 1))])), rvT (cmp1M .NotEq (callF R [] 13 [tupM [tupM [ret (.val (.int 2)), unM .USub (ret (.val (.int 1)))]]]) (ret (.val (.int 1))))]) (seqM (retM (ret (.val (.bl false)))) <| ret .nx) (ret .nx)) <|
  b_law_11 R
def m_law (R : Nat → List Sl → Out Rv) : M Pyd.Flow :=
  seqM (asgE (storeAt 1) (callF R [] 14 [varM 0])) <|
  b_law_12 R
theorem at_law (n : Nat) (a0 : Sl) : lev P (n + 1) 27 [a0] = bodyOut [a0] (m_law (lev P n) [a0, .emp, .emp, .emp, .emp, .emp, .emp]) := by kernel_rfl
end K78
end

section
set_option Elab.async false
set_option linter.all false
set_option maxRecDepth 100000
set_option maxHeartbeats 4000000
/-! Run: how a mirror's run is told. -/
namespace Pyd
open PySem M

/-- what is to hold at the end: after a value, after an error (a class: so that simp leaves it alone) -/
class EndP (α : Type) where
  q : α → List Sl → Prop
  e : Str → Option D → List Sl → Prop
/-- (a structure: the kernel is not to look into it) -/
structure Rn {α : Type} [P : EndP α] (o : Out α) : Prop where
  un : match o with
    | .ok a ρ => P.q a ρ
    | .exc c x ρ => P.e c x ρ
    | .bad => False
def NoE : Str → Option D → List Sl → Prop := fun _ _ _ => False
section
variable {α β : Type} {Q Q' : α → List Sl → Prop} {E E' : Str → Option D → List Sl → Prop} {ρ ρ' : List Sl}
theorem Rn.ok {a : α} : Rn (P := ⟨Q, E⟩) (.ok a ρ) = Q a ρ := propext ⟨fun h => @Rn.un _ ⟨Q, E⟩ _ h, fun h => @Rn.mk _ ⟨Q, E⟩ _ h⟩
theorem Rn.exc {c : Str} {x : Option D} : Rn (P := ⟨Q, E⟩) (.exc c x ρ : Out α) = E c x ρ := propext ⟨fun h => @Rn.un _ ⟨Q, E⟩ _ h, fun h => @Rn.mk _ ⟨Q, E⟩ _ h⟩
theorem Rn.no : Rn (P := ⟨Q, E⟩) (.bad : Out α) = False := propext ⟨fun h => @Rn.un _ ⟨Q, E⟩ _ h, fun h => @Rn.mk _ ⟨Q, E⟩ _ h⟩
theorem Rn.of_no {p : Prop} (h : Rn (P := ⟨Q, E⟩) (.bad : Out α)) : p := (cast Rn.no h : False).elim
theorem Rn.bnd {m : M β} {k : β → M α} : Rn (P := ⟨Q, E⟩) (M.bnd m k ρ) = Rn (P := ⟨(fun a ρ' => Rn (P := ⟨Q, E⟩) (k a ρ')), E⟩) (m ρ) := by
  unfold M.bnd
  cases m ρ with
  | ok a ρ' => rw [Rn.ok]
  | exc c x ρ' => rw [Rn.exc, Rn.exc]
  | bad => rw [Rn.no, Rn.no]
theorem Rn.guard {b : Bool} {m : M α} : Rn (P := ⟨Q, E⟩) (M.guard b m ρ) = (b = true ∧ Rn (P := ⟨Q, E⟩) (m ρ)) := by
  cases b with
  | true => exact propext ⟨fun h => ⟨rfl, h⟩, fun h => h.2⟩
  | false => exact propext ⟨fun h => Rn.of_no h, fun h => nomatch h.1⟩
theorem Rn.opt {o : Option α} : Rn (P := ⟨Q, E⟩) (M.opt o ρ) = ∃ a, o = some a ∧ Q a ρ := by
  cases o with
  | none => exact propext ⟨fun h => Rn.of_no h, fun ⟨_, h, _⟩ => nomatch h⟩
  | some a => exact propext ⟨fun h => ⟨a, rfl, cast Rn.ok h⟩, fun ⟨b, h, q⟩ => by cases h; exact cast Rn.ok.symm q⟩
theorem Rn.opt_some {a : α} : Rn (P := ⟨Q, E⟩) (M.opt (some a) ρ) = Q a ρ := Rn.ok
theorem Rn.mono {o : Out α} (h : Rn (P := ⟨Q, E⟩) o) (hq : ∀ a ρ, Q a ρ → Q' a ρ) (he : ∀ c x ρ, E c x ρ → E' c x ρ) : Rn (P := ⟨Q', E'⟩) o := by
  cases o with
  | ok a ρ => exact cast Rn.ok.symm (hq _ _ (cast Rn.ok h))
  | exc c x ρ => exact cast Rn.exc.symm (he _ _ _ (cast Rn.exc h))
  | bad => exact Rn.of_no h
theorem Rn.of_eq {o : Out α} {a : α} (h : o = .ok a ρ) (q : Q a ρ) : Rn (P := ⟨Q, E⟩) o := by rw [h, Rn.ok]; exact q
theorem Rn.eq {o : Out α} {a : α} (h : Rn (P := ⟨(fun b ρ' => b = a ∧ ρ' = ρ), NoE⟩) o) : o = .ok a ρ := by
  cases o with
  | ok b ρ' => rw [Rn.ok] at h; obtain ⟨rfl, rfl⟩ := h; rfl
  | exc c x ρ => rw [Rn.exc] at h; exact h.elim
  | bad => exact Rn.of_no h
theorem exc_eq {o : Out α} {c : Str} {x : Option D} (h : Rn (P := ⟨fun _ _ => False, fun c' x' ρ' => c' = c ∧ x' = x ∧ ρ' = ρ⟩) o) : o = .exc c x ρ := by
  cases o with
  | ok b ρ' => rw [Rn.ok] at h; exact h.elim
  | exc c x ρ => rw [Rn.exc] at h; obtain ⟨rfl, rfl, rfl⟩ := h; rfl
  | bad => exact Rn.of_no h
theorem Rn.and {o : Out α} (h : Rn (P := ⟨Q, E⟩) o) (h' : Rn (P := ⟨Q', E⟩) o) : Rn (P := ⟨(fun a ρ => Q a ρ ∧ Q' a ρ), E⟩) o := by
  cases o with
  | ok a ρ => rw [Rn.ok] at h h' ⊢; exact ⟨h, h'⟩
  | exc c x ρ => rw [Rn.exc] at h ⊢; exact h
  | bad => exact Rn.of_no h
end
section
variable {Q : Pyd.Flow → List Sl → Prop} {E : Str → Option D → List Sl → Prop} {ρ ρ' : List Sl}
theorem Rn.seq {s t : M Pyd.Flow} : Rn (P := ⟨Q, E⟩) (seqM s t ρ) = Rn (P := ⟨(fun fl ρ' => match fl with | .nx => Rn (P := ⟨Q, E⟩) (t ρ') | .ret r => Q (.ret r) ρ'), E⟩) (s ρ) := by
  unfold seqM
  rw [Rn.bnd]
  refine congrArg (fun q => Rn (P := ⟨q, E⟩) _) ?_
  funext fl ρ'
  cases fl with
  | nx => rfl
  | ret r => exact Rn.ok
theorem Rn.ifM {t : M Bool} {a b : M Pyd.Flow} : Rn (P := ⟨Q, E⟩) (ifM t a b ρ) = Rn (P := ⟨(fun c ρ' => (c = true → Rn (P := ⟨Q, E⟩) (a ρ')) ∧ (c = false → Rn (P := ⟨Q, E⟩) (b ρ'))), E⟩) (t ρ) := by
  unfold Pyd.ifM
  rw [Rn.bnd]
  refine congrArg (fun q => Rn (P := ⟨q, E⟩) _) ?_
  funext c ρ'
  cases c with
  | true => exact propext ⟨fun h => ⟨fun _ => h, fun z => nomatch z⟩, fun h => h.1 rfl⟩
  | false => exact propext ⟨fun h => ⟨fun z => (nomatch z), fun _ => h⟩, fun h => h.2 rfl⟩
theorem Rn.forM {it : M (List D)} {g : Sl → M Unit} {b : M Pyd.Flow} : Rn (P := ⟨Q, E⟩) (forM it g b ρ) = Rn (P := ⟨(fun ds ρ' => Rn (P := ⟨Q, E⟩) (loopF g b ds ρ')), E⟩) (it ρ) := Rn.bnd
theorem Rn.loopNil {g : Sl → M Unit} {b : M Pyd.Flow} : Rn (P := ⟨Q, E⟩) (loopF g b [] ρ) = Q .nx ρ := Rn.ok
theorem Rn.loopCons {g : Sl → M Unit} {b : M Pyd.Flow} {d : D} {ds : List D} : Rn (P := ⟨Q, E⟩) (loopF g b (d :: ds) ρ) = Rn (P := ⟨(fun _ ρ' => Rn (P := ⟨(fun fl ρ'' => match fl with | .nx => Rn (P := ⟨Q, E⟩) (loopF g b ds ρ'') | .ret r => Q (.ret r) ρ''), E⟩) (b ρ')), E⟩) (g (.val d) ρ) := by
  unfold loopF
  rw [Rn.bnd]
  refine congrArg (fun q => Rn (P := ⟨q, E⟩) _) ?_
  funext _ ρ'
  rw [Rn.bnd]
  refine congrArg (fun q => Rn (P := ⟨q, E⟩) _) ?_
  funext fl ρ''
  cases fl with
  | nx => rfl
  | ret r => exact Rn.ok
theorem loopF_run {g : Sl → M Unit} {b : M Pyd.Flow} (J : List D → List Sl → Prop)
    (step : ∀ d ds ρ, J (d :: ds) ρ → Rn (P := ⟨(fun _ ρ' => Rn (P := ⟨(fun fl ρ'' => match fl with | .nx => J ds ρ'' | .ret r => Q (.ret r) ρ''), E⟩) (b ρ')), E⟩) (g (.val d) ρ))
    (fin : ∀ ρ, J [] ρ → Q .nx ρ) : ∀ ds ρ, J ds ρ → Rn (P := ⟨Q, E⟩) (loopF g b ds ρ)
  | [], ρ, h => by rw [Rn.loopNil]; exact fin ρ h
  | d :: ds, ρ, h => by
    rw [Rn.loopCons]
    refine (step d ds ρ h).mono (fun _ ρ' h' => h'.mono (fun fl ρ'' h'' => ?_) fun _ _ _ e => e) fun _ _ _ e => e
    cases fl with
    | nx => exact loopF_run J step fin ds ρ'' h''
    | ret r => exact h''
end
/-! ### comprehensions -/
def oneC (vs : List Nat) (g : Sl → M Unit) (t : M Bool) (f : M Rv) (d : D) : M (Option D) := bnd (wipeM vs) fun _ => bnd (g (.val d)) fun _ => bnd t fun c => match c with
  | false => ret none
  | true => bnd f fun r => bnd (frz r) fun x => ret (some x)
section
variable {vs : List Nat} {g : Sl → M Unit} {t : M Bool} {f : M Rv} {ρ : List Sl} {E : Str → Option D → List Sl → Prop}
theorem Rn.oneC {d : D} {Q : Option D → List Sl → Prop} : Rn (P := ⟨Q, E⟩) (oneC vs g t f d ρ) = Rn (P := ⟨(fun _ ρ' => Rn (P := ⟨(fun c ρ' => (c = true → Rn (P := ⟨(fun x ρ' => Q (some x) ρ'), E⟩) (M.bnd f frz ρ')) ∧ (c = false → Q none ρ')), E⟩) (t ρ')), E⟩) (g (.val d) (wipeS vs ρ)) := by
  unfold Pyd.oneC
  rw [Rn.bnd]
  refine Eq.trans (Rn.ok (a := ()) (ρ := wipeS vs ρ)) ?_
  rw [Rn.bnd]
  refine congrArg (fun q => Rn (P := ⟨q, E⟩) _) ?_
  funext _ ρ'
  rw [Rn.bnd]
  refine congrArg (fun q => Rn (P := ⟨q, E⟩) _) ?_
  funext c ρ'
  cases c with
  | true =>
    have e : Rn (P := ⟨Q, E⟩) (M.bnd f (fun r => M.bnd (frz r) fun x => M.ret (some x)) ρ') = Rn (P := ⟨(fun x ρ' => Q (some x) ρ'), E⟩) (M.bnd f frz ρ') := by
      rw [Rn.bnd, Rn.bnd]
      refine congrArg (fun q => Rn (P := ⟨q, E⟩) _) ?_
      funext r ρ''
      rw [Rn.bnd]
      refine congrArg (fun q => Rn (P := ⟨q, E⟩) _) ?_
      funext x ρ''
      exact Rn.ok
    exact propext ⟨fun h => ⟨fun _ => e.mp h, fun z => (nomatch z)⟩, fun h => e.mpr (h.1 rfl)⟩
  | false => exact propext ⟨fun h => ⟨fun z => (nomatch z), fun _ => cast Rn.ok h⟩, fun h => cast Rn.ok.symm (h.2 rfl)⟩
theorem loopC_one {d : D} {ds : List D} : loopC vs g t f (d :: ds) ρ = bnd (oneC vs g t f d) (fun o => bnd (loopC vs g t f ds) fun xs => ret (o.toList ++ xs)) ρ := by
  show M.bnd (wipeM vs) _ ρ = _
  unfold Pyd.oneC M.bnd wipeM
  simp only
  cases g (.val d) (wipeS vs ρ) with
  | ok _ ρ' =>
    simp only
    cases t ρ' with
    | ok c ρ' =>
      cases c with
      | true =>
        simp only
        cases f ρ' with
        | ok r ρ' =>
          simp only
          cases frz r ρ' with
          | ok r ρ' => rfl
          | exc _ _ _ => rfl
          | bad => rfl
        | exc _ _ _ => rfl
        | bad => rfl
      | false =>
        simp only [M.ret]
        cases loopC vs g t f ds ρ' <;> rfl
    | exc _ _ _ => rfl
    | bad => rfl
  | exc _ _ _ => rfl
  | bad => rfl
theorem loopC_run (J : List D → List D → List Sl → Prop)
    (step : ∀ d ds acc ρ, J (d :: ds) acc ρ → Rn (P := ⟨(fun o ρ' => J ds (acc ++ o.toList) ρ'), E⟩) (oneC vs g t f d ρ)) :
    ∀ ds acc ρ, J ds acc ρ → Rn (P := ⟨(fun xs ρ' => J [] (acc ++ xs) ρ'), E⟩) (loopC vs g t f ds ρ)
  | [], acc, ρ, h => by
    refine cast Rn.ok.symm ?_
    rw [List.append_nil]; exact h
  | d :: ds, acc, ρ, h => by
    rw [loopC_one, Rn.bnd]
    refine (step d ds acc ρ h).mono (fun o ρ' h' => ?_) fun _ _ _ e => e
    rw [Rn.bnd]
    refine (loopC_run J step ds _ ρ' h').mono (fun xs ρ'' h'' => ?_) fun _ _ _ e => e
    refine cast Rn.ok.symm ?_
    rw [← List.append_assoc]; exact h''
theorem wipeS_gt (vs : List Nat) (ρ : List Sl) (i : Nat) : (wipeS vs ρ)[i]? = if i ∈ vs ∧ i < ρ.length then some .emp else ρ[i]? := by
  induction vs with
  | nil => simp [wipeS]
  | cons j vs ih =>
    show ((wipeS vs ρ).set j .emp)[i]? = _
    have hl : (wipeS vs ρ).length = ρ.length := by
      clear ih
      induction vs with
      | nil => rfl
      | cons j vs ih => show ((wipeS vs ρ).set j .emp).length = _; rw [List.length_set]; exact ih
    rw [List.getElem?_set, ih, hl]
    by_cases e : j = i
    · subst e
      by_cases hj : j < ρ.length
      · simp [hj]
      · simp [hj, List.getElem?_eq_none (Nat.le_of_not_lt hj)]
    · have : ¬ i = j := fun z => e z.symm
      simp [e, this]
theorem wipeS_ln (vs : List Nat) (ρ : List Sl) : (wipeS vs ρ).length = ρ.length := by
  induction vs with
  | nil => rfl
  | cons j vs ih => show ((wipeS vs ρ).set j .emp).length = _; rw [List.length_set]; exact ih
theorem wipeS_idem (vs : List Nat) (ρ : List Sl) : wipeS vs (wipeS vs ρ) = wipeS vs ρ := by
  apply List.ext_getElem?
  intro i
  rw [wipeS_gt, wipeS_gt, wipeS_ln]
  split <;> rfl
theorem restS_ln (vs : List Nat) (ρ0 ρ : List Sl) : (restS vs ρ0 ρ).length = ρ.length := by
  induction vs with
  | nil => rfl
  | cons j vs ih => show ((restS vs ρ0 ρ).set j _).length = _; rw [List.length_set]; exact ih
theorem restS_gt (vs : List Nat) (ρ0 ρ : List Sl) (i : Nat) : (restS vs ρ0 ρ)[i]? = if i ∈ vs ∧ i < ρ.length then some (ρ0.getD i .emp) else ρ[i]? := by
  induction vs with
  | nil => simp [restS]
  | cons j vs ih =>
    show ((restS vs ρ0 ρ).set j (ρ0.getD j .emp))[i]? = _
    rw [List.getElem?_set, ih, restS_ln]
    by_cases e : j = i
    · subst e
      by_cases hj : j < ρ.length
      · simp [hj]
      · simp [hj, List.getElem?_eq_none (Nat.le_of_not_lt hj)]
    · have : ¬ i = j := fun z => e z.symm
      simp [e, this]
/-- the names of a comprehension come back as they were -/
theorem restS_same {vs : List Nat} {ρ ρ' : List Sl} (h : wipeS vs ρ' = wipeS vs ρ) : restS vs ρ ρ' = ρ := by
  have hl : ρ'.length = ρ.length := by rw [← wipeS_ln vs ρ', h, wipeS_ln]
  apply List.ext_getElem?
  intro i
  rw [restS_gt]
  have hg := congrArg (fun l : List Sl => l[i]?) h
  simp only [wipeS_gt] at hg
  rw [hl] at hg ⊢
  by_cases c : i ∈ vs ∧ i < ρ.length
  · rw [if_pos c, List.getD_eq_getElem?_getD]
    obtain ⟨_, c⟩ := c
    rw [List.getElem?_eq_getElem c]
    rfl
  · rw [if_neg c] at hg ⊢
    rw [if_neg c] at hg
    exact hg
/-- a comprehension that changes nothing -/
theorem comp_pure {α : Type} (xs : List α) (enc : α → D) (c : α → Bool) (h : α → D) (hp : (vs.all fun i => plainSl ρ[i]?) = true) (hl : okLen ((xs.filter c).map h).length = true)
    (H : ∀ x ∈ xs, Rn (P := ⟨(fun o ρ' => o = (if c x then some (h x) else none) ∧ wipeS vs ρ' = wipeS vs ρ), NoE⟩) (oneC vs g t f (enc x) (wipeS vs ρ))) :
    compM vs (loopC vs g t f (xs.map enc)) ρ = .ok (.own (.lst ((xs.filter c).map h))) ρ := by
  have key : ∀ (xs : List α), (∀ x ∈ xs, Rn (P := ⟨(fun o ρ' => o = (if c x then some (h x) else none) ∧ wipeS vs ρ' = wipeS vs ρ), NoE⟩) (Pyd.oneC vs g t f (enc x) (wipeS vs ρ))) → ∀ ρ1, wipeS vs ρ1 = wipeS vs ρ → ∃ ρ2, wipeS vs ρ2 = wipeS vs ρ ∧ loopC vs g t f (xs.map enc) ρ1 = .ok ((xs.filter c).map h) ρ2 := by
    intro xs
    induction xs with
    | nil => intro _ ρ1 h1; exact ⟨ρ1, h1, rfl⟩
    | cons x xs ih =>
      intro H ρ1 h1
      have hx := H x List.mem_cons_self
      have hx1 : Pyd.oneC vs g t f (enc x) ρ1 = Pyd.oneC vs g t f (enc x) (wipeS vs ρ) := by
        unfold Pyd.oneC M.bnd wipeM
        simp only [h1, wipeS_idem]
      rw [List.map_cons, loopC_one]
      unfold M.bnd
      rw [hx1]
      cases ho : Pyd.oneC vs g t f (enc x) (wipeS vs ρ) with
      | ok o ρ' =>
        rw [ho, Rn.ok] at hx
        obtain ⟨rfl, h2⟩ := hx
        obtain ⟨ρ2, h3, h4⟩ := ih (fun y hy => H y (List.mem_cons_of_mem _ hy)) ρ' h2
        refine ⟨ρ2, h3, ?_⟩
        simp only [h4]
        by_cases hc : c x = true
        · simp [hc, M.ret]
        · simp [hc, M.ret]
      | exc _ _ _ => rw [ho, Rn.exc] at hx; exact hx.elim
      | bad => rw [ho] at hx; exact Rn.of_no hx
  obtain ⟨ρ2, h3, h4⟩ := key xs H ρ rfl
  unfold compM
  rw [hp]
  simp only [h4, hl, restS_same h3]
end
/-! ### calls -/
section
variable {as ss : List Sl} {o : Out Pyd.Flow} {Q : Rv → List Sl → Prop} {E : Str → Option D → List Sl → Prop}
theorem Rn.body : Rn (P := ⟨Q, E⟩) (bodyOut as o) = Rn (P := ⟨(fun fl ρ => ∃ r ss, retOf fl ρ = some r ∧ slOut as ρ = some ss ∧ Q r ss), (fun c x ρ => ∃ ss, slOut as ρ = some ss ∧ E c x ss)⟩) o := by
  cases o with
  | bad => exact Rn.no.trans Rn.no.symm
  | exc c x ρ =>
    rw [Rn.exc]
    unfold bodyOut
    simp only
    cases slOut as ρ with
    | none => exact propext ⟨fun h => Rn.of_no h, fun ⟨_, h, _⟩ => nomatch h⟩
    | some ss => exact propext ⟨fun h => ⟨ss, rfl, cast Rn.exc h⟩, fun ⟨_, h, q⟩ => by cases h; exact cast Rn.exc.symm q⟩
  | ok fl ρ =>
    rw [Rn.ok]
    unfold bodyOut
    simp only
    cases retOf fl ρ with
    | none => exact propext ⟨fun h => Rn.of_no h, fun ⟨_, _, h, _⟩ => nomatch h⟩
    | some r =>
      cases slOut as ρ with
      | none => exact propext ⟨fun h => Rn.of_no h, fun ⟨_, _, _, h, _⟩ => nomatch h⟩
      | some ss => exact propext ⟨fun h => ⟨r, ss, rfl, rfl, cast Rn.ok h⟩, fun ⟨_, _, h, h', q⟩ => by cases h; cases h'; exact cast Rn.ok.symm q⟩
/-- a def that gives back data and changes nothing -/
theorem body_ok {d : D} (h : Rn (P := ⟨(fun fl ρ => retOf fl ρ = some (.val d) ∧ slOut as ρ = some as), NoE⟩) o) : bodyOut as o = .ok (.val d) as := by
  cases o with
  | bad => exact Rn.of_no h
  | exc c x ρ => rw [Rn.exc] at h; exact h.elim
  | ok fl ρ =>
    rw [Rn.ok] at h
    obtain ⟨h1, h2⟩ := h
    unfold bodyOut
    simp only [h1, h2]
end
end Pyd
end

section
set_option Elab.async false
set_option linter.all false
set_option maxRecDepth 100000
set_option maxHeartbeats 4000000
/-! Rule: one rule a form, for simp. -/
namespace Pyd
open PySem

def varO (o : Option Sl) (i : Nat) (ρ : List Sl) : Out Rv := match o with
  | some (.val d) => .ok (.val d) ρ
  | some (.own _) => .ok (.var i) ρ
  | some (.bor _) => .ok (.var i) ρ
  | _ => .bad
def lookO (o : Option Sl) (ρ : List Sl) : Out D := match o with
  | some (.val d) => .ok d ρ
  | some (.own o) => .ok o.data ρ
  | some (.bor o) => .ok o.data ρ
  | _ => .bad
def frzO (o : Option Sl) (i : Nat) (ρ : List Sl) : Out D := match o with
  | some (.val d) => .ok d ρ
  | some (.own o) => .ok o.data (ρ.set i (.val o.data))
  | _ => .bad
def borO (o : Option Sl) (ρ : List Sl) : Out Sl := match o with
  | some (.val d) => .ok (.val d) ρ
  | some (.own o) => .ok (.bor o) ρ
  | some (.bor o) => .ok (.bor o) ρ
  | _ => .bad
def stoO (o : Option Sl) (i : Nat) (s : Sl) (ρ : List Sl) : Out Unit := match o with
  | some (.bor _) => .bad
  | some _ => .ok () (ρ.set i s)
  | none => .bad
theorem Rn.ext {α : Type} {Q Q' : α → List Sl → Prop} {E : Str → Option D → List Sl → Prop} {o : Out α} (h : ∀ a ρ, Q a ρ = Q' a ρ) : Rn (P := ⟨Q, E⟩) o = Rn (P := ⟨Q', E⟩) o := by
  have e : Q = Q' := by funext a ρ; exact h a ρ
  rw [e]
section
variable {ρ : List Sl} {i : Nat} {d : D} {o : Ob} {s : Sl}
theorem varM_ap : varM i ρ = varO ρ[i]? i ρ := rfl
theorem varO_val : varO (some (.val d)) i ρ = .ok (.val d) ρ := rfl
theorem varO_own : varO (some (.own o)) i ρ = .ok (.var i) ρ := rfl
theorem varO_bor : varO (some (.bor o)) i ρ = .ok (.var i) ρ := rfl
theorem look_val : look (.val d) ρ = .ok d ρ := rfl
theorem look_own : look (.own o) ρ = .ok o.data ρ := rfl
theorem look_var : look (.var i) ρ = lookO ρ[i]? ρ := by
  unfold look peek lookO
  cases h : ρ[i]? with
  | none => simp only [h]
  | some s => cases s <;> simp only [h]
theorem lookO_val : lookO (some (.val d)) ρ = .ok d ρ := rfl
theorem lookO_own : lookO (some (.own o)) ρ = .ok o.data ρ := rfl
theorem lookO_bor : lookO (some (.bor o)) ρ = .ok o.data ρ := rfl
theorem frz_val : frz (.val d) ρ = .ok d ρ := rfl
theorem frz_own : frz (.own o) ρ = .ok o.data ρ := rfl
theorem frz_var : frz (.var i) ρ = frzO ρ[i]? i ρ := rfl
theorem frzO_val : frzO (some (.val d)) i ρ = .ok d ρ := rfl
theorem frzO_own : frzO (some (.own o)) i ρ = .ok o.data (ρ.set i (.val o.data)) := rfl
theorem toSl_val : toSl (.val d) ρ = .ok (.val d) ρ := rfl
theorem toSl_own : toSl (.own o) ρ = .ok (.own o) ρ := rfl
theorem argOf0_val : argOf false (.val d) ρ = .ok (.val d) ρ := rfl
theorem argOf0_own : argOf false (.own o) ρ = .ok (.val o.data) ρ := rfl
theorem argOf1_val : argOf true (.val d) ρ = .ok (.val d) ρ := rfl
theorem argOf1_own : argOf true (.own o) ρ = .ok (.bor o) ρ := rfl
theorem argOf1_var : argOf true (.var i) ρ = borO ρ[i]? ρ := rfl
theorem borO_own : borO (some (.own o)) ρ = .ok (.bor o) ρ := rfl
theorem borO_bor : borO (some (.bor o)) ρ = .ok (.bor o) ρ := rfl
theorem borO_val : borO (some (.val d)) ρ = .ok (.val d) ρ := rfl
theorem storeAt_ap : storeAt i s ρ = stoO ρ[i]? i s ρ := by
  unfold storeAt stoO
  cases h : ρ[i]? with
  | none => simp only [h]
  | some s => cases s <;> simp only [h]
theorem stoO_emp {t : Sl} : stoO (some .emp) i t ρ = .ok () (ρ.set i t) := rfl
theorem stoO_val {t : Sl} : stoO (some (.val d)) i t ρ = .ok () (ρ.set i t) := rfl
theorem stoO_own {t : Sl} : stoO (some (.own o)) i t ρ = .ok () (ρ.set i t) := rfl
theorem data_lst {ds : List D} : (Ob.lst ds).data = .lst ds := rfl
end
section
variable {α β : Type} {Q : Rv → List Sl → Prop} {E : Str → Option D → List Sl → Prop} {ρ ρ' : List Sl}
theorem Rn.ret {α : Type} {a : α} {Q : α → List Sl → Prop} : Rn (P := ⟨Q, E⟩) (M.ret a ρ) = Q a ρ := Rn.ok
theorem Rn.toSl_var {i : Nat} {Q : Sl → List Sl → Prop} : Rn (P := ⟨Q, E⟩) (toSl (.var i) ρ) = Rn (P := ⟨fun d ρ => Q (.val d) ρ, E⟩) (frzO ρ[i]? i ρ) := Eq.trans Rn.bnd (Rn.ext fun _ _ => Rn.ok)
theorem Rn.argOf0_var {i : Nat} {Q : Sl → List Sl → Prop} : Rn (P := ⟨Q, E⟩) (argOf false (.var i) ρ) = Rn (P := ⟨fun d ρ => Q (.val d) ρ, E⟩) (frzO ρ[i]? i ρ) := Eq.trans Rn.bnd (Rn.ext fun _ _ => Rn.ok)
theorem Rn.frzs_nil {Q : List D → List Sl → Prop} : Rn (P := ⟨Q, E⟩) (frzs [] ρ) = Q [] ρ := Rn.ok
theorem Rn.frzs_cons {r : Rv} {rs : List Rv} {Q : List D → List Sl → Prop} : Rn (P := ⟨Q, E⟩) (frzs (r :: rs) ρ) = Rn (P := ⟨fun d ρ => Rn (P := ⟨fun ds ρ => Q (d :: ds) ρ, E⟩) (frzs rs ρ), E⟩) (frz r ρ) := by
  unfold frzs; repeat' (first | rfl | exact Rn.ok | (rw [Rn.ret]) | (rw [Rn.bnd]; try refine Rn.ext fun _ _ => ?_) | (rw [Rn.guard]) | (rw [Rn.lift2]; try refine Rn.ext fun _ _ => ?_) | (rw [Rn.lift1]; try refine Rn.ext fun _ _ => ?_) | (rw [Rn.frzs_cons]; try refine Rn.ext fun _ _ => ?_) | (rw [Rn.looks_cons]; try refine Rn.ext fun _ _ => ?_) | (rw [Rn.frzs_nil]) | (refine Rn.ext fun _ _ => ?_) | (refine congrArg (And _) ?_))
theorem Rn.looks_nil {Q : List D → List Sl → Prop} : Rn (P := ⟨Q, E⟩) (looks [] ρ) = Q [] ρ := Rn.ok
theorem Rn.looks_cons {r : Rv} {rs : List Rv} {Q : List D → List Sl → Prop} : Rn (P := ⟨Q, E⟩) (looks (r :: rs) ρ) = Rn (P := ⟨fun d ρ => Rn (P := ⟨fun ds ρ => Q (d :: ds) ρ, E⟩) (looks rs ρ), E⟩) (look r ρ) := by
  unfold looks; repeat' (first | rfl | exact Rn.ok | (rw [Rn.ret]) | (rw [Rn.bnd]; try refine Rn.ext fun _ _ => ?_) | (rw [Rn.guard]) | (rw [Rn.lift2]; try refine Rn.ext fun _ _ => ?_) | (rw [Rn.lift1]; try refine Rn.ext fun _ _ => ?_) | (rw [Rn.frzs_cons]; try refine Rn.ext fun _ _ => ?_) | (rw [Rn.looks_cons]; try refine Rn.ext fun _ _ => ?_) | (rw [Rn.frzs_nil]) | (refine Rn.ext fun _ _ => ?_) | (refine congrArg (And _) ?_))
theorem Rn.toSls_nil {Q : List Sl → List Sl → Prop} : Rn (P := ⟨Q, E⟩) (toSls [] ρ) = Q [] ρ := Rn.ok
theorem Rn.toSls_cons {r : Rv} {rs : List Rv} {Q : List Sl → List Sl → Prop} : Rn (P := ⟨Q, E⟩) (toSls (r :: rs) ρ) = Rn (P := ⟨fun d ρ => Rn (P := ⟨fun ds ρ => Q (d :: ds) ρ, E⟩) (toSls rs ρ), E⟩) (toSl r ρ) := by
  unfold toSls; repeat' (first | rfl | exact Rn.ok | (rw [Rn.ret]) | (rw [Rn.bnd]; try refine Rn.ext fun _ _ => ?_) | (rw [Rn.guard]) | (rw [Rn.lift2]; try refine Rn.ext fun _ _ => ?_) | (rw [Rn.lift1]; try refine Rn.ext fun _ _ => ?_) | (rw [Rn.frzs_cons]; try refine Rn.ext fun _ _ => ?_) | (rw [Rn.looks_cons]; try refine Rn.ext fun _ _ => ?_) | (rw [Rn.frzs_nil]) | (refine Rn.ext fun _ _ => ?_) | (refine congrArg (And _) ?_))
theorem Rn.argsM_nil {Q : List Rv → List Sl → Prop} : Rn (P := ⟨Q, E⟩) (argsM [] ρ) = Q [] ρ := Rn.ok
theorem Rn.argsM_cons {e : M Rv} {es : List (M Rv)} {Q : List Rv → List Sl → Prop} : Rn (P := ⟨Q, E⟩) (argsM (e :: es) ρ) = Rn (P := ⟨fun r ρ => Rn (P := ⟨fun rs ρ => Q (r :: rs) ρ, E⟩) (argsM es ρ), E⟩) (e ρ) := by
  unfold argsM; repeat' (first | rfl | exact Rn.ok | (rw [Rn.ret]) | (rw [Rn.bnd]; try refine Rn.ext fun _ _ => ?_) | (rw [Rn.guard]) | (rw [Rn.lift2]; try refine Rn.ext fun _ _ => ?_) | (rw [Rn.lift1]; try refine Rn.ext fun _ _ => ?_) | (rw [Rn.frzs_cons]; try refine Rn.ext fun _ _ => ?_) | (rw [Rn.looks_cons]; try refine Rn.ext fun _ _ => ?_) | (rw [Rn.frzs_nil]) | (refine Rn.ext fun _ _ => ?_) | (refine congrArg (And _) ?_))
theorem Rn.tupM {es : List (M Rv)} : Rn (P := ⟨Q, E⟩) (tupM es ρ) = Rn (P := ⟨fun rs ρ => Rn (P := ⟨fun ds ρ => okLen ds.length = true ∧ Q (.val (.tup ds)) ρ, E⟩) (frzs rs ρ), E⟩) (argsM es ρ) := by
  unfold Pyd.tupM; repeat' (first | rfl | exact Rn.ok | (rw [Rn.ret]) | (rw [Rn.bnd]; try refine Rn.ext fun _ _ => ?_) | (rw [Rn.guard]) | (rw [Rn.lift2]; try refine Rn.ext fun _ _ => ?_) | (rw [Rn.lift1]; try refine Rn.ext fun _ _ => ?_) | (rw [Rn.frzs_cons]; try refine Rn.ext fun _ _ => ?_) | (rw [Rn.looks_cons]; try refine Rn.ext fun _ _ => ?_) | (rw [Rn.frzs_nil]) | (refine Rn.ext fun _ _ => ?_) | (refine congrArg (And _) ?_))
theorem Rn.lstM {es : List (M Rv)} : Rn (P := ⟨Q, E⟩) (lstM es ρ) = Rn (P := ⟨fun rs ρ => Rn (P := ⟨fun ds ρ => okLen ds.length = true ∧ Q (.own (.lst ds)) ρ, E⟩) (frzs rs ρ), E⟩) (argsM es ρ) := by
  unfold Pyd.lstM; repeat' (first | rfl | exact Rn.ok | (rw [Rn.ret]) | (rw [Rn.bnd]; try refine Rn.ext fun _ _ => ?_) | (rw [Rn.guard]) | (rw [Rn.lift2]; try refine Rn.ext fun _ _ => ?_) | (rw [Rn.lift1]; try refine Rn.ext fun _ _ => ?_) | (rw [Rn.frzs_cons]; try refine Rn.ext fun _ _ => ?_) | (rw [Rn.looks_cons]; try refine Rn.ext fun _ _ => ?_) | (rw [Rn.frzs_nil]) | (refine Rn.ext fun _ _ => ?_) | (refine congrArg (And _) ?_))
theorem Rn.lift1 {f : D → Option Rv} {r : Rv} : Rn (P := ⟨Q, E⟩) (lift1 f r ρ) = Rn (P := ⟨fun d ρ => Rn (P := ⟨Q, E⟩) (M.opt (f d) ρ), E⟩) (look r ρ) := by
  unfold Pyd.lift1; repeat' (first | rfl | exact Rn.ok | (rw [Rn.ret]) | (rw [Rn.bnd]; try refine Rn.ext fun _ _ => ?_) | (rw [Rn.guard]) | (rw [Rn.lift2]; try refine Rn.ext fun _ _ => ?_) | (rw [Rn.lift1]; try refine Rn.ext fun _ _ => ?_) | (rw [Rn.frzs_cons]; try refine Rn.ext fun _ _ => ?_) | (rw [Rn.looks_cons]; try refine Rn.ext fun _ _ => ?_) | (rw [Rn.frzs_nil]) | (refine Rn.ext fun _ _ => ?_) | (refine congrArg (And _) ?_))
theorem Rn.lift2 {f : D → D → Option Rv} {r s : Rv} : Rn (P := ⟨Q, E⟩) (lift2 f r s ρ) = Rn (P := ⟨fun d ρ => Rn (P := ⟨fun e ρ => Rn (P := ⟨Q, E⟩) (M.opt (f d e) ρ), E⟩) (look s ρ), E⟩) (look r ρ) := by
  unfold Pyd.lift2; repeat' (first | rfl | exact Rn.ok | (rw [Rn.ret]) | (rw [Rn.bnd]; try refine Rn.ext fun _ _ => ?_) | (rw [Rn.guard]) | (rw [Rn.lift2]; try refine Rn.ext fun _ _ => ?_) | (rw [Rn.lift1]; try refine Rn.ext fun _ _ => ?_) | (rw [Rn.frzs_cons]; try refine Rn.ext fun _ _ => ?_) | (rw [Rn.looks_cons]; try refine Rn.ext fun _ _ => ?_) | (rw [Rn.frzs_nil]) | (refine Rn.ext fun _ _ => ?_) | (refine congrArg (And _) ?_))
theorem Rn.binM {op : Operator} {a b : M Rv} : Rn (P := ⟨Q, E⟩) (binM op a b ρ) = Rn (P := ⟨fun x ρ => Rn (P := ⟨fun y ρ => Rn (P := ⟨Q, E⟩) (Pyd.lift2 (binD op) x y ρ), E⟩) (b ρ), E⟩) (a ρ) := by
  unfold Pyd.binM; repeat' (first | rfl | exact Rn.ok | (rw [Rn.ret]) | (rw [Rn.bnd]; try refine Rn.ext fun _ _ => ?_) | (rw [Rn.guard]) | (rw [Rn.lift2]; try refine Rn.ext fun _ _ => ?_) | (rw [Rn.lift1]; try refine Rn.ext fun _ _ => ?_) | (rw [Rn.frzs_cons]; try refine Rn.ext fun _ _ => ?_) | (rw [Rn.looks_cons]; try refine Rn.ext fun _ _ => ?_) | (rw [Rn.frzs_nil]) | (refine Rn.ext fun _ _ => ?_) | (refine congrArg (And _) ?_))
theorem Rn.unM {op : UnaryOp} {a : M Rv} : Rn (P := ⟨Q, E⟩) (unM op a ρ) = Rn (P := ⟨fun x ρ => Rn (P := ⟨Q, E⟩) (Pyd.lift1 (unD op) x ρ), E⟩) (a ρ) := by
  unfold Pyd.unM; repeat' (first | rfl | exact Rn.ok | (rw [Rn.ret]) | (rw [Rn.bnd]; try refine Rn.ext fun _ _ => ?_) | (rw [Rn.guard]) | (rw [Rn.lift2]; try refine Rn.ext fun _ _ => ?_) | (rw [Rn.lift1]; try refine Rn.ext fun _ _ => ?_) | (rw [Rn.frzs_cons]; try refine Rn.ext fun _ _ => ?_) | (rw [Rn.looks_cons]; try refine Rn.ext fun _ _ => ?_) | (rw [Rn.frzs_nil]) | (refine Rn.ext fun _ _ => ?_) | (refine congrArg (And _) ?_))
theorem br {c : Bool} {a b : Prop} {p : Prop} (h1 : c = true → (p = a)) (h2 : c = false → (p = b)) : p = ((c = true → a) ∧ (c = false → b)) := by
  cases c with
  | true => rw [h1 rfl]; exact propext ⟨fun h => ⟨fun _ => h, fun z => (nomatch z)⟩, fun h => h.1 rfl⟩
  | false => rw [h2 rfl]; exact propext ⟨fun h => ⟨fun z => (nomatch z), fun _ => h⟩, fun h => h.2 rfl⟩
theorem Rn.andM1 {e : M Rv} : Rn (P := ⟨Q, E⟩) (andM [e] ρ) = Rn (P := ⟨Q, E⟩) (e ρ) := rfl
theorem Rn.andM {e e' : M Rv} {es : List (M Rv)} : Rn (P := ⟨Q, E⟩) (andM (e :: e' :: es) ρ) = Rn (P := ⟨fun r ρ => Rn (P := ⟨fun d ρ => Rn (P := ⟨fun b ρ => (b = true → Rn (P := ⟨Q, E⟩) (Pyd.andM (e' :: es) ρ)) ∧ (b = false → Q r ρ), E⟩) (M.opt (truD d) ρ), E⟩) (look r ρ), E⟩) (e ρ) := by
  show Rn (P := ⟨Q, E⟩) (M.bnd e _ ρ) = _
  rw [Rn.bnd]; refine Rn.ext fun r ρ => ?_
  rw [Rn.bnd]; refine Rn.ext fun d ρ => ?_
  rw [Rn.bnd]; refine Rn.ext fun b ρ => ?_
  exact br (fun h => by subst h; first | rfl | exact Rn.ok) (fun h => by subst h; first | rfl | exact Rn.ok)
theorem Rn.orM1 {e : M Rv} : Rn (P := ⟨Q, E⟩) (Pyd.orM [e] ρ) = Rn (P := ⟨Q, E⟩) (e ρ) := rfl
theorem Rn.orM {e e' : M Rv} {es : List (M Rv)} : Rn (P := ⟨Q, E⟩) (Pyd.orM (e :: e' :: es) ρ) = Rn (P := ⟨fun r ρ => Rn (P := ⟨fun d ρ => Rn (P := ⟨fun b ρ => (b = true → Q r ρ) ∧ (b = false → Rn (P := ⟨Q, E⟩) (Pyd.orM (e' :: es) ρ)), E⟩) (M.opt (truD d) ρ), E⟩) (look r ρ), E⟩) (e ρ) := by
  show Rn (P := ⟨Q, E⟩) (M.bnd e _ ρ) = _
  rw [Rn.bnd]; refine Rn.ext fun r ρ => ?_
  rw [Rn.bnd]; refine Rn.ext fun d ρ => ?_
  rw [Rn.bnd]; refine Rn.ext fun b ρ => ?_
  exact br (fun h => by subst h; first | rfl | exact Rn.ok) (fun h => by subst h; first | rfl | exact Rn.ok)
theorem Rn.cmp1M {op : CmpOp} {l b : M Rv} : Rn (P := ⟨Q, E⟩) (cmp1M op l b ρ) = Rn (P := ⟨fun x ρ => Rn (P := ⟨fun y ρ => Rn (P := ⟨fun d ρ => Rn (P := ⟨fun e ρ => Rn (P := ⟨fun c ρ => Q (.val (.bl c)) ρ, E⟩) (M.opt (cmpD op d e) ρ), E⟩) (look y ρ), E⟩) (look x ρ), E⟩) (b ρ), E⟩) (l ρ) := by
  unfold Pyd.cmp1M; repeat' (first | rfl | exact Rn.ok | (rw [Rn.ret]) | (rw [Rn.bnd]; try refine Rn.ext fun _ _ => ?_) | (rw [Rn.guard]) | (rw [Rn.lift2]; try refine Rn.ext fun _ _ => ?_) | (rw [Rn.lift1]; try refine Rn.ext fun _ _ => ?_) | (rw [Rn.frzs_cons]; try refine Rn.ext fun _ _ => ?_) | (rw [Rn.looks_cons]; try refine Rn.ext fun _ _ => ?_) | (rw [Rn.frzs_nil]) | (refine Rn.ext fun _ _ => ?_) | (refine congrArg (And _) ?_))
theorem Rn.cmp2M {op op' : CmpOp} {l b c : M Rv} : Rn (P := ⟨Q, E⟩) (cmp2M op op' l b c ρ) = Rn (P := ⟨fun x ρ => Rn (P := ⟨fun y ρ => Rn (P := ⟨fun d ρ => Rn (P := ⟨fun e ρ => Rn (P := ⟨fun k ρ => (k = true → Rn (P := ⟨fun z ρ => Rn (P := ⟨fun e' ρ => Rn (P := ⟨fun g ρ => Rn (P := ⟨fun k' ρ => Q (.val (.bl k')) ρ, E⟩) (M.opt (cmpD op' e' g) ρ), E⟩) (look z ρ), E⟩) (look y ρ), E⟩) (c ρ)) ∧ (k = false → Q (.val (.bl false)) ρ), E⟩) (M.opt (cmpD op d e) ρ), E⟩) (look y ρ), E⟩) (look x ρ), E⟩) (b ρ), E⟩) (l ρ) := by
  unfold Pyd.cmp2M; repeat' (first | rfl | exact Rn.ok | (rw [Rn.ret]) | (rw [Rn.bnd]; try refine Rn.ext fun _ _ => ?_) | (rw [Rn.guard]) | (rw [Rn.lift2]; try refine Rn.ext fun _ _ => ?_) | (rw [Rn.lift1]; try refine Rn.ext fun _ _ => ?_) | (rw [Rn.frzs_cons]; try refine Rn.ext fun _ _ => ?_) | (rw [Rn.looks_cons]; try refine Rn.ext fun _ _ => ?_) | (rw [Rn.frzs_nil]) | (refine Rn.ext fun _ _ => ?_) | (refine congrArg (And _) ?_))
  rename_i k ρ
  refine br (fun h => ?_) (fun h => by subst h; first | rfl | exact Rn.ok)
  subst h
  repeat' (first | rfl | exact Rn.ok | (rw [Rn.ret]) | (rw [Rn.bnd]; try refine Rn.ext fun _ _ => ?_) | (rw [Rn.guard]) | (rw [Rn.lift2]; try refine Rn.ext fun _ _ => ?_) | (rw [Rn.lift1]; try refine Rn.ext fun _ _ => ?_) | (rw [Rn.frzs_cons]; try refine Rn.ext fun _ _ => ?_) | (rw [Rn.looks_cons]; try refine Rn.ext fun _ _ => ?_) | (rw [Rn.frzs_nil]) | (refine Rn.ext fun _ _ => ?_) | (refine congrArg (And _) ?_))
theorem Rn.ixM {a i : M Rv} : Rn (P := ⟨Q, E⟩) (ixM a i ρ) = Rn (P := ⟨fun r ρ => Rn (P := ⟨fun s ρ => Rn (P := ⟨fun d ρ => Rn (P := ⟨fun k ρ => Rn (P := ⟨fun x ρ => Q (.val x) ρ, E⟩) (M.opt (ixD d k) ρ), E⟩) (look s ρ), E⟩) (look r ρ), E⟩) (i ρ), E⟩) (a ρ) := by
  unfold Pyd.ixM; repeat' (first | rfl | exact Rn.ok | (rw [Rn.ret]) | (rw [Rn.bnd]; try refine Rn.ext fun _ _ => ?_) | (rw [Rn.guard]) | (rw [Rn.lift2]; try refine Rn.ext fun _ _ => ?_) | (rw [Rn.lift1]; try refine Rn.ext fun _ _ => ?_) | (rw [Rn.frzs_cons]; try refine Rn.ext fun _ _ => ?_) | (rw [Rn.looks_cons]; try refine Rn.ext fun _ _ => ?_) | (rw [Rn.frzs_nil]) | (refine Rn.ext fun _ _ => ?_) | (refine congrArg (And _) ?_))
  rename_i b _ k ρ
  cases ixD b k <;> simp only [M.opt, Option.map, Option.bind, Rn.ok, Rn.no]
theorem Rn.ifE {t : M Bool} {a b : M Rv} : Rn (P := ⟨Q, E⟩) (ifE t a b ρ) = Rn (P := ⟨fun c ρ => (c = true → Rn (P := ⟨Q, E⟩) (a ρ)) ∧ (c = false → Rn (P := ⟨Q, E⟩) (b ρ)), E⟩) (t ρ) := by
  unfold Pyd.ifE; repeat' (first | rfl | exact Rn.ok | (rw [Rn.ret]) | (rw [Rn.bnd]; try refine Rn.ext fun _ _ => ?_) | (rw [Rn.guard]) | (rw [Rn.lift2]; try refine Rn.ext fun _ _ => ?_) | (rw [Rn.lift1]; try refine Rn.ext fun _ _ => ?_) | (rw [Rn.frzs_cons]; try refine Rn.ext fun _ _ => ?_) | (rw [Rn.looks_cons]; try refine Rn.ext fun _ _ => ?_) | (rw [Rn.frzs_nil]) | (refine Rn.ext fun _ _ => ?_) | (refine congrArg (And _) ?_))
  rename_i c ρ
  exact br (fun h => by subst h; first | rfl | exact Rn.ok) (fun h => by subst h; first | rfl | exact Rn.ok)
theorem Rn.partM_none {Q : Option Int → List Sl → Prop} : Rn (P := ⟨Q, E⟩) (partM none ρ) = Q none ρ := Rn.ok
theorem Rn.partM_some {e : M Rv} {Q : Option Int → List Sl → Prop} : Rn (P := ⟨Q, E⟩) (partM (some e) ρ) = Rn (P := ⟨fun r ρ => ∃ i, r = .val (.int i) ∧ Q (some i) ρ, E⟩) (e ρ) := by
  unfold partM; repeat' (first | rfl | exact Rn.ok | (rw [Rn.ret]) | (rw [Rn.bnd]; try refine Rn.ext fun _ _ => ?_) | (rw [Rn.guard]) | (rw [Rn.lift2]; try refine Rn.ext fun _ _ => ?_) | (rw [Rn.lift1]; try refine Rn.ext fun _ _ => ?_) | (rw [Rn.frzs_cons]; try refine Rn.ext fun _ _ => ?_) | (rw [Rn.looks_cons]; try refine Rn.ext fun _ _ => ?_) | (rw [Rn.frzs_nil]) | (refine Rn.ext fun _ _ => ?_) | (refine congrArg (And _) ?_))
  rename_i r ρ
  cases r with
  | val d => cases d with
    | int i => exact propext ⟨fun h => ⟨i, rfl, cast Rn.ok h⟩, fun ⟨_, h, q⟩ => by cases h; exact cast Rn.ok.symm q⟩
    | _ => exact propext ⟨fun h => Rn.of_no h, fun ⟨_, h, _⟩ => by cases h⟩
  | _ => exact propext ⟨fun h => Rn.of_no h, fun ⟨_, h, _⟩ => by cases h⟩
theorem Rn.slM {a : M Rv} {lo hi : Option (M Rv)} : Rn (P := ⟨Q, E⟩) (slM a lo hi ρ) = Rn (P := ⟨fun r ρ => Rn (P := ⟨fun l ρ => Rn (P := ⟨fun h ρ => Rn (P := ⟨fun d ρ => Rn (P := ⟨Q, E⟩) (M.opt (slD d l h) ρ), E⟩) (look r ρ), E⟩) (partM hi ρ), E⟩) (partM lo ρ), E⟩) (a ρ) := by
  unfold Pyd.slM; repeat' (first | rfl | exact Rn.ok | (rw [Rn.ret]) | (rw [Rn.bnd]; try refine Rn.ext fun _ _ => ?_) | (rw [Rn.guard]) | (rw [Rn.lift2]; try refine Rn.ext fun _ _ => ?_) | (rw [Rn.lift1]; try refine Rn.ext fun _ _ => ?_) | (rw [Rn.frzs_cons]; try refine Rn.ext fun _ _ => ?_) | (rw [Rn.looks_cons]; try refine Rn.ext fun _ _ => ?_) | (rw [Rn.frzs_nil]) | (refine Rn.ext fun _ _ => ?_) | (refine congrArg (And _) ?_))
theorem Rn.revE {a : M Rv} : Rn (P := ⟨Q, E⟩) (revE a ρ) = Rn (P := ⟨fun r ρ => Rn (P := ⟨fun d ρ => Rn (P := ⟨Q, E⟩) (M.opt (revD d) ρ), E⟩) (look r ρ), E⟩) (a ρ) := by
  unfold Pyd.revE; repeat' (first | rfl | exact Rn.ok | (rw [Rn.ret]) | (rw [Rn.bnd]; try refine Rn.ext fun _ _ => ?_) | (rw [Rn.guard]) | (rw [Rn.lift2]; try refine Rn.ext fun _ _ => ?_) | (rw [Rn.lift1]; try refine Rn.ext fun _ _ => ?_) | (rw [Rn.frzs_cons]; try refine Rn.ext fun _ _ => ?_) | (rw [Rn.looks_cons]; try refine Rn.ext fun _ _ => ?_) | (rw [Rn.frzs_nil]) | (refine Rn.ext fun _ _ => ?_) | (refine congrArg (And _) ?_))
theorem Rn.compE {it : M (List D)} {vs : List Nat} {g : Sl → M Unit} {t : M Bool} {f : M Rv} : Rn (P := ⟨Q, E⟩) (compE it vs g t f ρ) = Rn (P := ⟨fun ds ρ => Rn (P := ⟨Q, E⟩) (compM vs (loopC vs g t f ds) ρ), E⟩) (it ρ) := Rn.bnd
theorem Rn.callF {R : Nat → List Sl → Out Rv} {fl : List Bool} {k : Nat} {es : List (M Rv)} : Rn (P := ⟨Q, E⟩) (callF R fl k es ρ) = Rn (P := ⟨fun rs ρ => Rn (P := ⟨Q, E⟩) (callK R fl k rs ρ), E⟩) (argsM es ρ) := Rn.bnd
/-- what a call's end comes to: nothing is lent -/
def gotO (r : Out Rv) (n : Nat) (ρ : List Sl) : Out Rv := match r with
  | .ok r ss' => match noVar r && decide (ss'.length = n) with
    | true => .ok r ρ
    | false => .bad
  | .exc c x ss' => match decide (ss'.length = n) with
    | true => .exc c x ρ
    | false => .bad
  | .bad => .bad
def argS : List Rv → M (List Sl)
  | [] => M.ret []
  | r :: rs => M.bnd (argOf false r) fun s => M.bnd (argS rs) fun ss => M.ret (s :: ss)
theorem argS_eq : ∀ rs, argsOf [] rs = argS rs
  | [] => rfl
  | r :: rs => by
    unfold argsOf argS
    rw [argS_eq rs]
theorem lent_nil : ∀ rs, lent [] rs = []
  | [] => rfl
  | r :: rs => by unfold lent; rfl
theorem Rn.argS_nil {Q : List Sl → List Sl → Prop} : Rn (P := ⟨Q, E⟩) (argS [] ρ) = Q [] ρ := Rn.ok
theorem Rn.argS_cons {r : Rv} {rs : List Rv} {Q : List Sl → List Sl → Prop} : Rn (P := ⟨Q, E⟩) (argS (r :: rs) ρ) = Rn (P := ⟨fun s ρ => Rn (P := ⟨fun ss ρ => Q (s :: ss) ρ, E⟩) (argS rs ρ), E⟩) (argOf false r ρ) := by
  unfold argS; repeat' (first | rfl | exact Rn.ok | (rw [Rn.ret]) | (rw [Rn.bnd]; try refine Rn.ext fun _ _ => ?_) | (rw [Rn.guard]) | (rw [Rn.lift2]; try refine Rn.ext fun _ _ => ?_) | (rw [Rn.lift1]; try refine Rn.ext fun _ _ => ?_) | (rw [Rn.frzs_cons]; try refine Rn.ext fun _ _ => ?_) | (rw [Rn.looks_cons]; try refine Rn.ext fun _ _ => ?_) | (rw [Rn.frzs_nil]) | (refine Rn.ext fun _ _ => ?_) | (refine congrArg (And _) ?_))
theorem Rn.callK0 {R : Nat → List Sl → Out Rv} {k : Nat} {rs : List Rv} : Rn (P := ⟨Q, E⟩) (callK R [] k rs ρ) = Rn (P := ⟨fun ss ρ => Rn (P := ⟨Q, E⟩) (gotO (R k ss) ss.length ρ), E⟩) (argS rs ρ) := by
  unfold callK
  rw [lent_nil, argS_eq]
  have e : ∀ ss, borAll [] rs ss = true := fun ss => by unfold borAll; rfl
  have e2 : ∀ (ss : List Sl) (ρ : List Sl), back [] rs ss ρ = ρ := fun ss ρ => by unfold back; rfl
  show Rn (P := ⟨Q, E⟩) (M.bnd _ _ ρ) = _
  rw [Rn.bnd]
  refine Rn.ext ?_; intro ss ρ
  simp only [e, e2, List.all_nil, Bool.and_self]
  rfl
theorem gotO_val {d : D} {n : Nat} {ss : List Sl} : gotO (.ok (.val d) ss) n ρ = match decide (ss.length = n) with | true => .ok (.val d) ρ | false => .bad := rfl
theorem gotO_own {o : Ob} {n : Nat} {ss : List Sl} : gotO (.ok (.own o) ss) n ρ = match decide (ss.length = n) with | true => .ok (.own o) ρ | false => .bad := rfl
theorem gotO_exc {c : Str} {x : Option D} {n : Nat} {ss : List Sl} : gotO (.exc c x ss) n ρ = match decide (ss.length = n) with | true => .exc c x ρ | false => .bad := rfl
theorem Rn.biM {id : String} {es : List (M Rv)} : Rn (P := ⟨Q, E⟩) (biM id es ρ) = Rn (P := ⟨fun rs ρ => Rn (P := ⟨fun ds ρ => Rn (P := ⟨Q, E⟩) (M.opt (biD id ds) ρ), E⟩) (looks rs ρ), E⟩) (argsM es ρ) := by
  unfold Pyd.biM; repeat' (first | rfl | exact Rn.ok | (rw [Rn.ret]) | (rw [Rn.bnd]; try refine Rn.ext fun _ _ => ?_) | (rw [Rn.guard]) | (rw [Rn.lift2]; try refine Rn.ext fun _ _ => ?_) | (rw [Rn.lift1]; try refine Rn.ext fun _ _ => ?_) | (rw [Rn.frzs_cons]; try refine Rn.ext fun _ _ => ?_) | (rw [Rn.looks_cons]; try refine Rn.ext fun _ _ => ?_) | (rw [Rn.frzs_nil]) | (refine Rn.ext fun _ _ => ?_) | (refine congrArg (And _) ?_))
theorem Rn.tyM {id : String} {es : List (M Rv)} : Rn (P := ⟨Q, E⟩) (tyM id es ρ) = Rn (P := ⟨fun rs ρ => Rn (P := ⟨fun ds ρ => Rn (P := ⟨Q, E⟩) (M.opt (tyD id ds) ρ), E⟩) (looks rs ρ), E⟩) (argsM es ρ) := by
  unfold Pyd.tyM; repeat' (first | rfl | exact Rn.ok | (rw [Rn.ret]) | (rw [Rn.bnd]; try refine Rn.ext fun _ _ => ?_) | (rw [Rn.guard]) | (rw [Rn.lift2]; try refine Rn.ext fun _ _ => ?_) | (rw [Rn.lift1]; try refine Rn.ext fun _ _ => ?_) | (rw [Rn.frzs_cons]; try refine Rn.ext fun _ _ => ?_) | (rw [Rn.looks_cons]; try refine Rn.ext fun _ _ => ?_) | (rw [Rn.frzs_nil]) | (refine Rn.ext fun _ _ => ?_) | (refine congrArg (And _) ?_))
theorem Rn.isiM {a : M Rv} {n : String} : Rn (P := ⟨Q, E⟩) (isiM a n ρ) = Rn (P := ⟨fun r ρ => Rn (P := ⟨fun d ρ => Rn (P := ⟨fun b ρ => Q (.val (.bl b)) ρ, E⟩) (M.opt (isiD d n) ρ), E⟩) (look r ρ), E⟩) (a ρ) := by
  unfold Pyd.isiM; repeat' (first | rfl | exact Rn.ok | (rw [Rn.ret]) | (rw [Rn.bnd]; try refine Rn.ext fun _ _ => ?_) | (rw [Rn.guard]) | (rw [Rn.lift2]; try refine Rn.ext fun _ _ => ?_) | (rw [Rn.lift1]; try refine Rn.ext fun _ _ => ?_) | (rw [Rn.frzs_cons]; try refine Rn.ext fun _ _ => ?_) | (rw [Rn.looks_cons]; try refine Rn.ext fun _ _ => ?_) | (rw [Rn.frzs_nil]) | (refine Rn.ext fun _ _ => ?_) | (refine congrArg (And _) ?_))
theorem Rn.lstRg {m : M (List D)} : Rn (P := ⟨Q, E⟩) (lstRg m ρ) = Rn (P := ⟨fun ds ρ => Q (.own (.lst ds)) ρ, E⟩) (m ρ) := Eq.trans Rn.bnd (Rn.ext fun _ _ => Rn.ok)
theorem Rn.tupRg {m : M (List D)} : Rn (P := ⟨Q, E⟩) (tupRg m ρ) = Rn (P := ⟨fun ds ρ => Q (.val (.tup ds)) ρ, E⟩) (m ρ) := Eq.trans Rn.bnd (Rn.ext fun _ _ => Rn.ok)
theorem Rn.chM {j : Nat} {m : Str} {es : List (M Rv)} : Rn (P := ⟨Q, E⟩) (chM j m es ρ) = (ownSl ρ[j]? = true ∧ Rn (P := ⟨fun rs ρ => Rn (P := ⟨fun ds ρ => Rn (P := ⟨Q, E⟩) (chVar j m ds ρ), E⟩) (frzs rs ρ), E⟩) (argsM es ρ)) := by
  unfold Pyd.chM ownThen
  cases h : ownSl ρ[j]? with
  | true =>
    have e : Rn (P := ⟨Q, E⟩) (M.bnd (argsM es) (fun rs => M.bnd (frzs rs) fun ds => chVar j m ds) ρ) = Rn (P := ⟨fun rs ρ => Rn (P := ⟨fun ds ρ => Rn (P := ⟨Q, E⟩) (chVar j m ds ρ), E⟩) (frzs rs ρ), E⟩) (argsM es ρ) := by
      repeat' (first | rfl | exact Rn.ok | (rw [Rn.ret]) | (rw [Rn.bnd]; try refine Rn.ext fun _ _ => ?_) | (rw [Rn.guard]) | (rw [Rn.lift2]; try refine Rn.ext fun _ _ => ?_) | (rw [Rn.lift1]; try refine Rn.ext fun _ _ => ?_) | (rw [Rn.frzs_cons]; try refine Rn.ext fun _ _ => ?_) | (rw [Rn.looks_cons]; try refine Rn.ext fun _ _ => ?_) | (rw [Rn.frzs_nil]) | (refine Rn.ext fun _ _ => ?_) | (refine congrArg (And _) ?_))
    exact propext ⟨fun h => ⟨rfl, e.mp h⟩, fun h => e.mpr h.2⟩
  | false => exact propext ⟨fun h => Rn.of_no h, fun h => (nomatch h.1)⟩
def chO (o : Option Sl) (j : Nat) (m : Str) (as : List D) (ρ : List Sl) : Out Rv := match o with
  | some (.own (.lst ds)) => match chD m ds as with
    | some (y, ds') => .ok (.val y) (ρ.set j (.own (.lst ds')))
    | none => .bad
  | some (.bor (.lst ds)) => match chD m ds as with
    | some (y, ds') => .ok (.val y) (ρ.set j (.bor (.lst ds')))
    | none => .bad
  | _ => .bad
theorem chVar_ap {j : Nat} {m : Str} {as : List D} : chVar j m as ρ = chO ρ[j]? j m as ρ := by
  unfold chVar chO
  cases h : ρ[j]? with
  | none => simp only [h]
  | some s => rcases s with _ | _ | ⟨⟨_⟩⟩ | ⟨⟨_⟩⟩ <;> simp only [h] <;> rfl
theorem Rn.chO_own {j : Nat} {m : Str} {as ds : List D} : Rn (P := ⟨Q, E⟩) (chO (some (.own (.lst ds))) j m as ρ) = Rn (P := ⟨fun p _ => Q (.val p.1) (ρ.set j (.own (.lst p.2))), E⟩) (M.opt (chD m ds as) ρ) := by
  unfold chO M.opt
  cases h : chD m ds as <;> simp only [h] <;> simp only [M.opt, Option.map, Option.bind, Rn.ok, Rn.no]
theorem Rn.chO_bor {j : Nat} {m : Str} {as ds : List D} : Rn (P := ⟨Q, E⟩) (chO (some (.bor (.lst ds))) j m as ρ) = Rn (P := ⟨fun p _ => Q (.val p.1) (ρ.set j (.bor (.lst p.2))), E⟩) (M.opt (chD m ds as) ρ) := by
  unfold chO M.opt
  cases h : chD m ds as <;> simp only [h] <;> simp only [M.opt, Option.map, Option.bind, Rn.ok, Rn.no]
theorem Rn.mtM {a : M Rv} {m : Str} {es : List (M Rv)} : Rn (P := ⟨Q, E⟩) (mtM a m es ρ) = Rn (P := ⟨fun r ρ => Rn (P := ⟨fun d0 ρ => mtOk m d0 = true ∧ Rn (P := ⟨fun rs ρ => Rn (P := ⟨fun d ρ => alike d0 d = true ∧ Rn (P := ⟨fun ds ρ => Rn (P := ⟨Q, E⟩) (M.opt (mtD m d ds) ρ), E⟩) (looks rs ρ), E⟩) (look r ρ), E⟩) (argsM es ρ), E⟩) (look r ρ), E⟩) (a ρ) := by
  unfold Pyd.mtM; repeat' (first | rfl | exact Rn.ok | (rw [Rn.ret]) | (rw [Rn.bnd]; try refine Rn.ext fun _ _ => ?_) | (rw [Rn.guard]) | (rw [Rn.lift2]; try refine Rn.ext fun _ _ => ?_) | (rw [Rn.lift1]; try refine Rn.ext fun _ _ => ?_) | (rw [Rn.frzs_cons]; try refine Rn.ext fun _ _ => ?_) | (rw [Rn.looks_cons]; try refine Rn.ext fun _ _ => ?_) | (rw [Rn.frzs_nil]) | (refine Rn.ext fun _ _ => ?_) | (refine congrArg (And _) ?_))
/-- a helper that tells errors -/
def lamO (h : WordH) (o : Out Rv) : Out Rv := match o with
  | .ok _ ρ' => .ok (.val h.ok) ρ'
  | .exc c x ρ' => match h.exc c x with
    | some d => .ok (.val d) ρ'
    | none => .bad
  | .bad => .bad
theorem Rn.lamM {h : WordH} {m : M Rv} : Rn (P := ⟨Q, E⟩) (lamM h m ρ) = Rn (P := ⟨fun _ ρ' => Q (.val h.ok) ρ', fun c x ρ' => ∃ d, h.exc c x = some d ∧ Q (.val d) ρ'⟩) (m ρ) := by
  unfold Pyd.lamM
  cases m ρ with
  | ok a ρ' => simp only; rw [Rn.ok, Rn.ok]
  | exc c x ρ' =>
    simp only [Rn.exc]
    cases h.exc c x with
    | none => exact propext ⟨fun h => Rn.of_no h, fun ⟨_, h, _⟩ => (nomatch h)⟩
    | some d => exact propext ⟨fun h => ⟨d, rfl, cast Rn.ok h⟩, fun ⟨_, h, q⟩ => by cases h; exact cast Rn.ok.symm q⟩
  | bad => exact Rn.no.trans Rn.no.symm
end
section
variable {Q : Bool → List Sl → Prop} {E : Str → Option D → List Sl → Prop} {ρ ρ' : List Sl}
theorem Rn.andT1 {e : M Bool} : Rn (P := ⟨Q, E⟩) (andT [e] ρ) = Rn (P := ⟨Q, E⟩) (e ρ) := rfl
theorem Rn.andT {e e' : M Bool} {es : List (M Bool)} : Rn (P := ⟨Q, E⟩) (andT (e :: e' :: es) ρ) = Rn (P := ⟨fun b ρ => (b = true → Rn (P := ⟨Q, E⟩) (Pyd.andT (e' :: es) ρ)) ∧ (b = false → Q false ρ), E⟩) (e ρ) := by
  show Rn (P := ⟨Q, E⟩) (M.bnd e _ ρ) = _
  rw [Rn.bnd]; refine Rn.ext fun b ρ => ?_
  exact br (fun h => by subst h; first | rfl | exact Rn.ok) (fun h => by subst h; first | rfl | exact Rn.ok)
theorem Rn.orT1 {e : M Bool} : Rn (P := ⟨Q, E⟩) (orT [e] ρ) = Rn (P := ⟨Q, E⟩) (e ρ) := rfl
theorem Rn.orT {e e' : M Bool} {es : List (M Bool)} : Rn (P := ⟨Q, E⟩) (orT (e :: e' :: es) ρ) = Rn (P := ⟨fun b ρ => (b = true → Q true ρ) ∧ (b = false → Rn (P := ⟨Q, E⟩) (Pyd.orT (e' :: es) ρ)), E⟩) (e ρ) := by
  show Rn (P := ⟨Q, E⟩) (M.bnd e _ ρ) = _
  rw [Rn.bnd]; refine Rn.ext fun b ρ => ?_
  exact br (fun h => by subst h; first | rfl | exact Rn.ok) (fun h => by subst h; first | rfl | exact Rn.ok)
theorem Rn.notT {a : M Bool} : Rn (P := ⟨Q, E⟩) (notT a ρ) = Rn (P := ⟨fun b ρ => Q (!b) ρ, E⟩) (a ρ) := Eq.trans Rn.bnd (Rn.ext fun _ _ => Rn.ok)
theorem Rn.rvT {a : M Rv} : Rn (P := ⟨Q, E⟩) (rvT a ρ) = Rn (P := ⟨fun r ρ => ∃ b, r = .val (.bl b) ∧ Q b ρ, E⟩) (a ρ) := by
  unfold Pyd.rvT; repeat' (first | rfl | exact Rn.ok | (rw [Rn.ret]) | (rw [Rn.bnd]; try refine Rn.ext fun _ _ => ?_) | (rw [Rn.guard]) | (rw [Rn.lift2]; try refine Rn.ext fun _ _ => ?_) | (rw [Rn.lift1]; try refine Rn.ext fun _ _ => ?_) | (rw [Rn.frzs_cons]; try refine Rn.ext fun _ _ => ?_) | (rw [Rn.looks_cons]; try refine Rn.ext fun _ _ => ?_) | (rw [Rn.frzs_nil]) | (refine Rn.ext fun _ _ => ?_) | (refine congrArg (And _) ?_))
  rename_i r ρ
  cases r with
  | val d => cases d with
    | bl i => exact propext ⟨fun h => ⟨i, rfl, cast Rn.ok h⟩, fun ⟨_, h, q⟩ => by cases h; exact cast Rn.ok.symm q⟩
    | _ => exact propext ⟨fun h => Rn.of_no h, fun ⟨_, h, _⟩ => by cases h⟩
  | _ => exact propext ⟨fun h => Rn.of_no h, fun ⟨_, h, _⟩ => by cases h⟩
theorem Rn.truT {a : M Rv} : Rn (P := ⟨Q, E⟩) (truT a ρ) = Rn (P := ⟨fun r ρ => Rn (P := ⟨fun d ρ => Rn (P := ⟨Q, E⟩) (M.opt (truD d) ρ), E⟩) (look r ρ), E⟩) (a ρ) := by
  unfold Pyd.truT; repeat' (first | rfl | exact Rn.ok | (rw [Rn.ret]) | (rw [Rn.bnd]; try refine Rn.ext fun _ _ => ?_) | (rw [Rn.guard]) | (rw [Rn.lift2]; try refine Rn.ext fun _ _ => ?_) | (rw [Rn.lift1]; try refine Rn.ext fun _ _ => ?_) | (rw [Rn.frzs_cons]; try refine Rn.ext fun _ _ => ?_) | (rw [Rn.looks_cons]; try refine Rn.ext fun _ _ => ?_) | (rw [Rn.frzs_nil]) | (refine Rn.ext fun _ _ => ?_) | (refine congrArg (And _) ?_))
end
section
variable {Q : List D → List Sl → Prop} {E : Str → Option D → List Sl → Prop} {ρ ρ' : List Sl}
theorem Rn.rgM {n m : Int} : Rn (P := ⟨Q, E⟩) (rgM (.val (.int n)) (.val (.int m)) ρ) = (okRg n m = true ∧ Q (rgD n m) ρ) := Rn.guard.trans (by rw [Rn.ret])
theorem Rn.rg1 {a : M Rv} : Rn (P := ⟨Q, E⟩) (rg1 a ρ) = Rn (P := ⟨fun r ρ => Rn (P := ⟨Q, E⟩) (Pyd.rgM (.val (.int 0)) r ρ), E⟩) (a ρ) := Rn.bnd
theorem Rn.rg2 {a b : M Rv} : Rn (P := ⟨Q, E⟩) (rg2 a b ρ) = Rn (P := ⟨fun r ρ => Rn (P := ⟨fun s ρ => Rn (P := ⟨Q, E⟩) (Pyd.rgM r s ρ), E⟩) (b ρ), E⟩) (a ρ) := by
  unfold Pyd.rg2; repeat' (first | rfl | exact Rn.ok | (rw [Rn.ret]) | (rw [Rn.bnd]; try refine Rn.ext fun _ _ => ?_) | (rw [Rn.guard]) | (rw [Rn.lift2]; try refine Rn.ext fun _ _ => ?_) | (rw [Rn.lift1]; try refine Rn.ext fun _ _ => ?_) | (rw [Rn.frzs_cons]; try refine Rn.ext fun _ _ => ?_) | (rw [Rn.looks_cons]; try refine Rn.ext fun _ _ => ?_) | (rw [Rn.frzs_nil]) | (refine Rn.ext fun _ _ => ?_) | (refine congrArg (And _) ?_))
theorem Rn.rgM3 {Q : List D → List Sl → Prop} {n m c : Int} : Rn (P := ⟨Q, E⟩) (rgM3 (.val (.int n)) (.val (.int m)) (.val (.int c)) ρ) = (okRg3 n m c = true ∧ Q (rg3D n m c) ρ) := Rn.guard.trans (by rw [Rn.ret])
theorem Rn.rg3 {Q : List D → List Sl → Prop} {a b c : M Rv} : Rn (P := ⟨Q, E⟩) (rg3 a b c ρ) = Rn (P := ⟨fun r ρ => Rn (P := ⟨fun s ρ => Rn (P := ⟨fun t ρ => Rn (P := ⟨Q, E⟩) (Pyd.rgM3 r s t ρ), E⟩) (c ρ), E⟩) (b ρ), E⟩) (a ρ) := by
  unfold Pyd.rg3; repeat' (first | rfl | exact Rn.ok | (rw [Rn.ret]) | (rw [Rn.bnd]; try refine Rn.ext fun _ _ => ?_) | (rw [Rn.guard]) | (rw [Rn.lift2]; try refine Rn.ext fun _ _ => ?_) | (rw [Rn.lift1]; try refine Rn.ext fun _ _ => ?_) | (rw [Rn.frzs_cons]; try refine Rn.ext fun _ _ => ?_) | (rw [Rn.looks_cons]; try refine Rn.ext fun _ _ => ?_) | (rw [Rn.frzs_nil]) | (refine Rn.ext fun _ _ => ?_) | (refine congrArg (And _) ?_))
theorem Rn.itE {a : M Rv} : Rn (P := ⟨Q, E⟩) (itE a ρ) = Rn (P := ⟨fun r ρ => Rn (P := ⟨fun d ρ => Rn (P := ⟨Q, E⟩) (M.opt (seqD d) ρ), E⟩) (frz r ρ), E⟩) (a ρ) := by
  unfold Pyd.itE; repeat' (first | rfl | exact Rn.ok | (rw [Rn.ret]) | (rw [Rn.bnd]; try refine Rn.ext fun _ _ => ?_) | (rw [Rn.guard]) | (rw [Rn.lift2]; try refine Rn.ext fun _ _ => ?_) | (rw [Rn.lift1]; try refine Rn.ext fun _ _ => ?_) | (rw [Rn.frzs_cons]; try refine Rn.ext fun _ _ => ?_) | (rw [Rn.looks_cons]; try refine Rn.ext fun _ _ => ?_) | (rw [Rn.frzs_nil]) | (refine Rn.ext fun _ _ => ?_) | (refine congrArg (And _) ?_))
theorem Rn.enE {a : M Rv} : Rn (P := ⟨Q, E⟩) (enE a ρ) = Rn (P := ⟨fun r ρ => Rn (P := ⟨fun d ρ => Rn (P := ⟨fun ds ρ => Q (ds.zipIdx.map fun p => D.tup [.int (p.2 : Nat), p.1]) ρ, E⟩) (M.opt (seqD d) ρ), E⟩) (frz r ρ), E⟩) (a ρ) := by
  unfold Pyd.enE; repeat' (first | rfl | exact Rn.ok | (rw [Rn.ret]) | (rw [Rn.bnd]; try refine Rn.ext fun _ _ => ?_) | (rw [Rn.guard]) | (rw [Rn.lift2]; try refine Rn.ext fun _ _ => ?_) | (rw [Rn.lift1]; try refine Rn.ext fun _ _ => ?_) | (rw [Rn.frzs_cons]; try refine Rn.ext fun _ _ => ?_) | (rw [Rn.looks_cons]; try refine Rn.ext fun _ _ => ?_) | (rw [Rn.frzs_nil]) | (refine Rn.ext fun _ _ => ?_) | (refine congrArg (And _) ?_))
theorem Rn.zpE {a b : M Rv} : Rn (P := ⟨Q, E⟩) (zpE a b ρ) = Rn (P := ⟨fun r ρ => Rn (P := ⟨fun s ρ => Rn (P := ⟨fun d ρ => Rn (P := ⟨fun e ρ => Rn (P := ⟨fun ds ρ => Rn (P := ⟨fun es ρ => Q ((ds.zip es).map fun p => D.tup [p.1, p.2]) ρ, E⟩) (M.opt (seqD e) ρ), E⟩) (M.opt (seqD d) ρ), E⟩) (frz s ρ), E⟩) (frz r ρ), E⟩) (b ρ), E⟩) (a ρ) := by
  unfold Pyd.zpE; repeat' (first | rfl | exact Rn.ok | (rw [Rn.ret]) | (rw [Rn.bnd]; try refine Rn.ext fun _ _ => ?_) | (rw [Rn.guard]) | (rw [Rn.lift2]; try refine Rn.ext fun _ _ => ?_) | (rw [Rn.lift1]; try refine Rn.ext fun _ _ => ?_) | (rw [Rn.frzs_cons]; try refine Rn.ext fun _ _ => ?_) | (rw [Rn.looks_cons]; try refine Rn.ext fun _ _ => ?_) | (rw [Rn.frzs_nil]; unfold zipM) | (refine Rn.ext fun _ _ => ?_) | (refine congrArg (And _) ?_))
end
section
variable {Q : Unit → List Sl → Prop} {E : Str → Option D → List Sl → Prop} {ρ ρ' : List Sl}
theorem Rn.asgs_nil : Rn (P := ⟨Q, E⟩) (asgs [] [] ρ) = Q () ρ := Rn.ok
theorem Rn.asgs_cons {g : Sl → M Unit} {gs : List (Sl → M Unit)} {s : Sl} {ss : List Sl} : Rn (P := ⟨Q, E⟩) (asgs (g :: gs) (s :: ss) ρ) = Rn (P := ⟨fun _ ρ => Rn (P := ⟨Q, E⟩) (asgs gs ss ρ), E⟩) (g s ρ) := Rn.bnd
theorem Rn.tgT {gs : List (Sl → M Unit)} {d : D} : Rn (P := ⟨Q, E⟩) (tgT gs (.val d) ρ) = Rn (P := ⟨fun ds ρ => decide (ds.length = gs.length) = true ∧ Rn (P := ⟨Q, E⟩) (asgs gs (ds.map Sl.val) ρ), E⟩) (M.opt (seqD d) ρ) := by
  show Rn (P := ⟨Q, E⟩) (M.bnd _ _ ρ) = _
  rw [Rn.bnd]; refine Rn.ext fun _ _ => ?_
  rw [Rn.guard]
def putO (o : Option Sl) (j : Nat) (f : List D → Option (List D)) (ρ : List Sl) : Out Unit := match o with
  | some (.own (.lst ds)) => match f ds with
    | some ds' => .ok () (ρ.set j (.own (.lst ds')))
    | none => .bad
  | some (.bor (.lst ds)) => match f ds with
    | some ds' => .ok () (ρ.set j (.bor (.lst ds')))
    | none => .bad
  | _ => .bad
theorem putVar_ap {j : Nat} {f : List D → Option (List D)} : putVar j f ρ = putO ρ[j]? j f ρ := by
  unfold putVar putO
  cases h : ρ[j]? with
  | none => simp only [h]
  | some s => rcases s with _ | _ | ⟨⟨_⟩⟩ | ⟨⟨_⟩⟩ <;> simp only [h] <;> rfl
theorem Rn.putO_own {j : Nat} {f : List D → Option (List D)} {ds : List D} : Rn (P := ⟨Q, E⟩) (putO (some (.own (.lst ds))) j f ρ) = Rn (P := ⟨fun p _ => Q () (ρ.set j (.own (.lst p))), E⟩) (M.opt (f ds) ρ) := by
  unfold putO M.opt
  cases h : f ds <;> simp only [h] <;> simp only [M.opt, Option.map, Option.bind, Rn.ok, Rn.no]
theorem Rn.putO_bor {j : Nat} {f : List D → Option (List D)} {ds : List D} : Rn (P := ⟨Q, E⟩) (putO (some (.bor (.lst ds))) j f ρ) = Rn (P := ⟨fun p _ => Q () (ρ.set j (.bor (.lst p))), E⟩) (M.opt (f ds) ρ) := by
  unfold putO M.opt
  cases h : f ds <;> simp only [h] <;> simp only [M.opt, Option.map, Option.bind, Rn.ok, Rn.no]
theorem Rn.tgS {j : Nat} {ix : M Rv} {d : D} : Rn (P := ⟨Q, E⟩) (tgS j ix (.val d) ρ) = (ownSl ρ[j]? = true ∧ Rn (P := ⟨fun r ρ => ∃ k, r = .val (.int k) ∧ Rn (P := ⟨Q, E⟩) (putVar j (setD k d) ρ), E⟩) (ix ρ)) := by
  show Rn (P := ⟨Q, E⟩) (ownThen j _ ρ) = _
  unfold ownThen
  cases h : ownSl ρ[j]? with
  | true =>
    refine propext ⟨fun h => ⟨rfl, (Eq.mp Rn.bnd h).mono (fun r ρ h => ?_) fun _ _ _ e => e⟩, fun h => Eq.mpr Rn.bnd (h.2.mono (fun r ρ h => ?_) fun _ _ _ e => e)⟩
    · cases r with
      | val d => cases d with
        | int i => exact ⟨i, rfl, h⟩
        | _ => exact Rn.of_no h
      | _ => exact Rn.of_no h
    · obtain ⟨k, rfl, h⟩ := h
      exact h
  | false => exact propext ⟨fun h => Rn.of_no h, fun h => (nomatch h.1)⟩
end
section
variable {Q : Pyd.Flow → List Sl → Prop} {E : Str → Option D → List Sl → Prop} {ρ ρ' : List Sl}
theorem Rn.asgE {g : Sl → M Unit} {e : M Rv} : Rn (P := ⟨Q, E⟩) (asgE g e ρ) = Rn (P := ⟨fun r ρ => Rn (P := ⟨fun s ρ => Rn (P := ⟨fun _ ρ => Q .nx ρ, E⟩) (g s ρ), E⟩) (toSl r ρ), E⟩) (e ρ) := by
  unfold Pyd.asgE; repeat' (first | rfl | exact Rn.ok | (rw [Rn.ret]) | (rw [Rn.bnd]; try refine Rn.ext fun _ _ => ?_) | (rw [Rn.guard]) | (rw [Rn.lift2]; try refine Rn.ext fun _ _ => ?_) | (rw [Rn.lift1]; try refine Rn.ext fun _ _ => ?_) | (rw [Rn.frzs_cons]; try refine Rn.ext fun _ _ => ?_) | (rw [Rn.looks_cons]; try refine Rn.ext fun _ _ => ?_) | (rw [Rn.frzs_nil]) | (refine Rn.ext fun _ _ => ?_) | (refine congrArg (And _) ?_))
theorem Rn.parE {gs : List (Sl → M Unit)} {es : List (M Rv)} : Rn (P := ⟨Q, E⟩) (parE gs es ρ) = Rn (P := ⟨fun rs ρ => Rn (P := ⟨fun ss ρ => Rn (P := ⟨fun _ ρ => Q .nx ρ, E⟩) (asgs gs ss ρ), E⟩) (toSls rs ρ), E⟩) (argsM es ρ) := by
  unfold Pyd.parE; repeat' (first | rfl | exact Rn.ok | (rw [Rn.ret]) | (rw [Rn.bnd]; try refine Rn.ext fun _ _ => ?_) | (rw [Rn.guard]) | (rw [Rn.lift2]; try refine Rn.ext fun _ _ => ?_) | (rw [Rn.lift1]; try refine Rn.ext fun _ _ => ?_) | (rw [Rn.frzs_cons]; try refine Rn.ext fun _ _ => ?_) | (rw [Rn.looks_cons]; try refine Rn.ext fun _ _ => ?_) | (rw [Rn.frzs_nil]) | (refine Rn.ext fun _ _ => ?_) | (refine congrArg (And _) ?_))
theorem Rn.exprM {e : M Rv} : Rn (P := ⟨Q, E⟩) (exprM e ρ) = Rn (P := ⟨fun _ ρ => Q .nx ρ, E⟩) (e ρ) := Eq.trans Rn.bnd (Rn.ext fun _ _ => Rn.ok)
theorem Rn.retM {e : M Rv} : Rn (P := ⟨Q, E⟩) (retM e ρ) = Rn (P := ⟨fun r ρ => Q (.ret r) ρ, E⟩) (e ρ) := Eq.trans Rn.bnd (Rn.ext fun _ _ => Rn.ok)
theorem raisM_ap {x : Str} : raisM x ρ = .exc x none ρ := rfl
def augO (o : Option Sl) (i : Nat) (op : Operator) (me : M Rv) (ρ : List Sl) : Out Pyd.Flow := match o with
  | some (.val d) => M.bnd (M.bnd me look) (fun d' => M.bnd (M.opt (augD op d d')) fun z => M.bnd (storeAt i (.val z)) fun _ => M.ret .nx) ρ
  | _ => .bad
theorem augM_ap {i : Nat} {op : Operator} {me : M Rv} : augM i op me ρ = augO ρ[i]? i op me ρ := by
  unfold augM augO
  cases h : ρ[i]? with
  | none => simp only [h]
  | some s => cases s <;> simp only [h]
theorem Rn.augO {i : Nat} {op : Operator} {me : M Rv} {d : D} : Rn (P := ⟨Q, E⟩) (augO (some (.val d)) i op me ρ) = Rn (P := ⟨fun r ρ => Rn (P := ⟨fun d' ρ => Rn (P := ⟨fun z ρ => Rn (P := ⟨fun _ ρ => Q .nx ρ, E⟩) (storeAt i (.val z) ρ), E⟩) (M.opt (augD op d d') ρ), E⟩) (look r ρ), E⟩) (me ρ) := by
  unfold Pyd.augO; repeat' (first | rfl | exact Rn.ok | (rw [Rn.ret]) | (rw [Rn.bnd]; try refine Rn.ext fun _ _ => ?_) | (rw [Rn.guard]) | (rw [Rn.lift2]; try refine Rn.ext fun _ _ => ?_) | (rw [Rn.lift1]; try refine Rn.ext fun _ _ => ?_) | (rw [Rn.frzs_cons]; try refine Rn.ext fun _ _ => ?_) | (rw [Rn.looks_cons]; try refine Rn.ext fun _ _ => ?_) | (rw [Rn.frzs_nil]) | (refine Rn.ext fun _ _ => ?_) | (refine congrArg (And _) ?_))
end
/-! ### operators at data whose kind is known -/
section
variable {i j : Int} {a b : Bool} {xs ys : List D} {x y : D} {s t : Str}
theorem bin_add : binD .Add (.int i) (.int j) = some (.val (.int (i + j))) := rfl
theorem bin_addT : binD .Add (.tup xs) (.tup ys) = chk (okLen (xs.length + ys.length)) (some (.val (.tup (xs ++ ys)))) := rfl
theorem bin_addL : binD .Add (.lst xs) (.lst ys) = chk (okLen (xs.length + ys.length)) (some (.own (.lst (xs ++ ys)))) := rfl
theorem bin_sub : binD .Sub (.int i) (.int j) = some (.val (.int (i - j))) := rfl
theorem bin_mul : binD .Mult (.int i) (.int j) = chk (okMul i j) (some (.val (.int (i * j)))) := rfl
theorem bin_mulT : binD .Mult (.tup xs) (.int j) = chk (!xs.isEmpty && decide (2 ≤ j) && decide (j ≤ 1000) && decide (xs.length ≤ 1000)) (some (.val (.tup (List.replicate j.toNat xs).flatten))) := rfl
theorem bin_mulL : binD .Mult (.lst xs) (.int j) = chk (small j && okLen (xs.length * j.toNat)) (some (.own (.lst (List.replicate j.toNat xs).flatten))) := rfl
theorem bin_div : binD .FloorDiv (.int i) (.int j) = chk (okDiv j) (some (.val (.int (i / j)))) := rfl
theorem bin_mod : binD .Mod (.int i) (.int j) = chk (decide (0 < j)) (some (.val (.int (i % j)))) := rfl
theorem bin_pow : binD .Pow (.int i) (.int j) = chk (decide (0 ≤ j) && decide (j ≤ 1000) && decide (i.natAbs < 2 ^ 64)) (some (.val (.int (i ^ j.toNat)))) := rfl
theorem aug_add : augD .Add (.int i) (.int j) = some (.int (i + j)) := rfl
theorem aug_sub : augD .Sub (.int i) (.int j) = some (.int (i - j)) := rfl
theorem un_neg : unD .USub (.int i) = some (.val (.int (-i))) := rfl
theorem un_not : unD .Not x = (truD x).map fun b => .val (.bl (!b)) := rfl
theorem cmp_eq : cmpD .Eq x y = eqD x y := rfl
theorem cmp_ne : cmpD .NotEq x y = (eqD x y).map (!·) := rfl
theorem cmp_lt : cmpD .Lt (.int i) (.int j) = some (decide (i < j)) := rfl
theorem cmp_le : cmpD .LtE (.int i) (.int j) = some (decide (i ≤ j)) := rfl
theorem cmp_gt : cmpD .Gt (.int i) (.int j) = some (decide (j < i)) := rfl
theorem cmp_ge : cmpD .GtE (.int i) (.int j) = some (decide (j ≤ i)) := rfl
theorem cmp_is : cmpD .Is x y = isD x y := rfl
theorem cmp_isnot : cmpD .IsNot x y = (isD x y).map (!·) := rfl
theorem cmp_in : cmpD .In x y = inD x y := rfl
theorem cmp_notin : cmpD .NotIn x y = (inD x y).map (!·) := rfl
theorem is_bl : isD (.bl a) (.bl b) = some (decide (a = b)) := rfl
theorem is_nn : isD .non .non = some true := rfl
theorem is_in : isD (.int i) .non = some false := rfl
theorem is_tn : isD (.tup xs) .non = some false := rfl
theorem tru_bl : truD (.bl a) = some a := rfl
theorem tru_int : truD (.int i) = some (i != 0) := rfl
theorem tru_tup : truD (.tup xs) = some !xs.isEmpty := rfl
theorem tru_lst : truD (.lst xs) = some !xs.isEmpty := rfl
theorem ix_tup : ixD (.tup xs) (.int i) = L2.atI xs i := rfl
theorem ix_lst : ixD (.lst xs) (.int i) = L2.atI xs i := rfl
theorem seq_tup : seqD (.tup xs) = some xs := rfl
theorem seq_lst : seqD (.lst xs) = some xs := rfl
theorem bi_len_t : biD "len" [.tup xs] = some (.val (.int (xs.length : Nat))) := rfl
theorem bi_len_l : biD "len" [.lst xs] = some (.val (.int (xs.length : Nat))) := rfl
theorem bi_all : biD "all" [.lst xs] = (blsD xs).map fun bs => .val (.bl (bs.all id)) := rfl
theorem bi_any : biD "any" [.lst xs] = (blsD xs).map fun bs => .val (.bl (bs.any id)) := rfl
theorem bi_sumT : biD "sum" [.tup xs] = (intsD xs).map fun ns => .val (.int ns.sum) := rfl
theorem bi_sum : biD "sum" [.lst xs] = (intsD xs).map fun ns => .val (.int ns.sum) := rfl
theorem bi_max : biD "max" [.lst xs] = chk (!xs.isEmpty) ((intsD xs).map fun ns => .val (.int (maxI ns))) := rfl
theorem bi_min : biD "min" [.lst xs] = chk (!xs.isEmpty) (minO (intsD xs) xs) := rfl
theorem minO_some {ns : List Int} : minO (some ns) xs = some (.val (.int (minI ns))) := rfl
theorem minO_none : minO none xs = (match tupsI xs with | some (a :: r) => some (.val (.tup ((minT a r).map D.int))) | _ => none) := rfl
theorem cmp_ltT : cmpD .Lt (.tup xs) (.tup ys) = ltT (intsD xs) (intsD ys) := rfl
theorem ltT_some {ns ms : List Int} : ltT (some ns) (some ms) = some (HT.lexLt ns ms) := rfl
theorem bi_max2 : biD "max" [.int i, .int j] = some (.val (.int (if j > i then j else i))) := rfl
theorem bi_min2 : biD "min" [.int i, .int j] = some (.val (.int (if j < i then j else i))) := rfl
theorem bi_abs : biD "abs" [.int i] = some (.val (.int (if i < 0 then -i else i))) := rfl
theorem ty_int : tyD "int" [.int i] = some (.val (.int i)) := rfl
theorem ty_intb : tyD "int" [.bl a] = some (.val (.int (if a then 1 else 0))) := rfl
theorem ty_bool : tyD "bool" [.bl a] = some (.val (.bl a)) := rfl
theorem ty_booli : tyD "bool" [.int i] = some (.val (.bl (i != 0))) := rfl
theorem ty_tt : tyD "tuple" [.tup xs] = some (.val (.tup xs)) := rfl
theorem ty_tl : tyD "tuple" [.lst xs] = some (.val (.tup xs)) := rfl
theorem ty_lt : tyD "list" [.tup xs] = some (.own (.lst xs)) := rfl
theorem ty_ll : tyD "list" [.lst xs] = some (.own (.lst xs)) := rfl
theorem isi_int : isiD (.int i) "int" = some true := rfl
theorem isi_inb : isiD (.int i) "bool" = some false := rfl
theorem isi_tt : isiD (.tup xs) "tuple" = some true := rfl
theorem isi_lt : isiD (.lst xs) "tuple" = some false := rfl
theorem isi_it : isiD (.int i) "tuple" = some false := rfl
theorem isi_nt : isiD .non "tuple" = some false := rfl
theorem isi_st : isiD (.str s) "tuple" = some false := rfl
theorem ch_app : chD "append" xs [x] = chk (decide (xs.length < sizeLine)) (some (.non, xs ++ [x])) := rfl
theorem ch_ext : chD "extend" xs [.lst ys] = chk (okLen (xs.length + ys.length)) (some (.non, xs ++ ys)) := rfl
theorem ch_pop : chD "pop" xs [.int i] = chk (small i) ((L2.ixN xs.length i).bind fun k => (xs[k]?).map fun y => (y, xs.eraseIdx k)) := rfl
theorem ch_pop0 : chD "pop" xs [] = (xs[xs.length - 1]?).map fun y => (y, xs.dropLast) := rfl
theorem mto_ct : mtOk "count" (.tup xs) = true := rfl
theorem mto_cl : mtOk "count" (.lst xs) = true := rfl
theorem mto_il : mtOk "index" (.lst xs) = true := rfl
theorem alk_t : alike (.tup xs) (.tup ys) = true := rfl
theorem alk_l : alike (.lst xs) (.lst ys) = true := rfl
theorem mt_ct : mtD "count" (.tup xs) [x] = cntD x xs := rfl
theorem mt_cl : mtD "count" (.lst xs) [x] = cntD x xs := rfl
theorem mt_il : mtD "index" (.lst xs) [x] = idxD x xs := rfl
theorem own_own {o : Ob} : ownSl (some (.own o)) = true := rfl
theorem own_bor {o : Ob} : ownSl (some (.bor o)) = true := rfl
theorem plain_emp : plainSl (some .emp) = true := rfl
theorem plain_val : plainSl (some (.val x)) = true := rfl
theorem rev_t : revD (.tup xs) = some (.val (.tup xs.reverse)) := rfl
theorem rev_l : revD (.lst xs) = some (.own (.lst xs.reverse)) := rfl
theorem bi_repr {b : Bool} : biD "repr" [.bl b] = some (.val (.str (if b then "True" else "False"))) := rfl
theorem sl_t {l h : Option Int} : slD (.tup xs) l h = some (.val (.tup (cutD xs l h))) := rfl
theorem sl_l {l h : Option Int} : slD (.lst xs) l h = some (.own (.lst (cutD xs l h))) := rfl
theorem ret_nx {ρ : List Sl} : retOf .nx ρ = some (.val .non) := rfl
theorem ret_val {ρ : List Sl} : retOf (.ret (.val x)) ρ = some (.val x) := rfl
theorem ret_own {ρ : List Sl} {o : Ob} : retOf (.ret (.own o)) ρ = some (.own o) := rfl
theorem so_nil {ρ : List Sl} : slOut [] ρ = some [] := by cases ρ <;> rfl
theorem so_val {as ρ : List Sl} {s : Sl} : slOut (.val x :: as) (s :: ρ) = (slOut as ρ).map (.val x :: ·) := rfl
theorem so_bor {as ρ : List Sl} {o o' : Ob} : slOut (.bor o :: as) (.bor o' :: ρ) = (slOut as ρ).map (.bor o' :: ·) := rfl
def rtO (o : Option Sl) : Option Rv := match o with
  | some (.val d) => some (.val d)
  | some (.own o) => some (.own o)
  | _ => none
theorem ret_var {ρ : List Sl} {k : Nat} : retOf (.ret (.var k)) ρ = rtO ρ[k]? := by
  unfold retOf rtO
  cases h : ρ[k]? with
  | none => simp only [h]
  | some s => cases s <;> simp only [h]
theorem rtO_own {o : Ob} : rtO (some (.own o)) = some (.own o) := rfl
theorem rtO_val : rtO (some (.val x)) = some (.val x) := rfl
end
theorem Rn.chk {α : Type} {Q : α → List Sl → Prop} {E : Str → Option D → List Sl → Prop} {ρ : List Sl} {b : Bool} {o : Option α} : Rn (P := ⟨Q, E⟩) (M.opt (chk b o) ρ) = (b = true ∧ Rn (P := ⟨Q, E⟩) (M.opt o ρ)) := by
  cases b with
  | true => exact propext ⟨fun h => ⟨rfl, h⟩, fun h => h.2⟩
  | false => exact propext ⟨fun h => Rn.of_no h, fun h => (nomatch h.1)⟩
theorem Rn.optMap {α β : Type} {Q : β → List Sl → Prop} {E : Str → Option D → List Sl → Prop} {ρ : List Sl} {f : α → β} {o : Option α} : Rn (P := ⟨Q, E⟩) (M.opt (o.map f) ρ) = Rn (P := ⟨fun a ρ => Q (f a) ρ, E⟩) (M.opt o ρ) := by
  cases o <;> simp only [M.opt, Option.map, Option.bind, Rn.ok, Rn.no]
theorem Rn.optBind {α β : Type} {Q : β → List Sl → Prop} {E : Str → Option D → List Sl → Prop} {ρ : List Sl} {f : α → Option β} {o : Option α} : Rn (P := ⟨Q, E⟩) (M.opt (o.bind f) ρ) = Rn (P := ⟨fun a ρ => Rn (P := ⟨Q, E⟩) (M.opt (f a) ρ), E⟩) (M.opt o ρ) := by
  cases o <;> simp only [M.opt, Option.map, Option.bind, Rn.ok, Rn.no]
end Pyd
end

section
set_option Elab.async false
set_option linter.all false
set_option maxRecDepth 100000
set_option maxHeartbeats 4000000
/-! Enc: plain values as data. -/
namespace Pyd
open PySem

def D.nice : Nat → D → Bool
  | _, .non | _, .bl _ | _, .int _ => true
  | _, .str s => PyData.canLay0 (.str s)
  | k + 1, .tup ds => ds.all (D.nice k)
  | k + 1, .lst ds => ds.all (D.nice k)
  | _, _ => false
theorem pys_map (ds : List D) : D.pys ds = ds.map D.py := by
  induction ds with
  | nil => simp [D.pys]
  | cons d ds ih => simp [D.pys, ih]
theorem nice_lay : ∀ (k : Nat) (d : D), d.nice k = true → d.py.canLay0 = true ∧ d.py.depth ≤ k := by
  have hl : ∀ (k : Nat), (∀ d : D, d.nice k = true → d.py.canLay0 = true ∧ d.py.depth ≤ k) → ∀ ds : List D, ds.all (D.nice k) = true → PyData.canLayAll0 (D.pys ds) = true ∧ PyData.depthAll (D.pys ds) ≤ k := by
    intro k ih ds
    induction ds with
    | nil => intro _; simp [D.pys, PyData.canLayAll0, PyData.depthAll]
    | cons d ds ih2 =>
      intro h
      rw [List.all_cons, Bool.and_eq_true] at h
      have h1 := ih d h.1
      have h2 := ih2 h.2
      simp only [D.pys, PyData.canLayAll0, PyData.depthAll, h1.1, h2.1, Bool.and_self, true_and]
      omega
  intro k
  induction k with
  | zero =>
    intro d h
    cases d with
    | non => simp [D.py, PyData.canLay0, PyData.depth]
    | bl b => simp [D.py, PyData.canLay0, PyData.depth]
    | int i => simp [D.py, PyData.canLay0, PyData.depth]
    | str s => exact ⟨h, by simp [D.py, PyData.depth]⟩
    | tup ds => simp [D.nice] at h
    | lst ds => simp [D.nice] at h
    | fn k => simp [D.nice] at h
    | emp => simp [D.nice] at h
    | scr ns => simp [D.nice] at h
  | succ k ih =>
    intro d h
    cases d with
    | non => simp [D.py, PyData.canLay0, PyData.depth]
    | bl b => simp [D.py, PyData.canLay0, PyData.depth]
    | int i => simp [D.py, PyData.canLay0, PyData.depth]
    | str s => exact ⟨h, by simp [D.py, PyData.depth]⟩
    | tup ds =>
      have h2 := hl k ih ds h
      simp only [D.py, PyData.canLay0, PyData.depth, h2.1, true_and]
      omega
    | lst ds =>
      have h2 := hl k ih ds h
      simp only [D.py, PyData.canLay0, PyData.depth, h2.1, true_and]
      omega
    | fn k => simp [D.nice] at h
    | emp => simp [D.nice] at h
    | scr ns => simp [D.nice] at h
theorem nice_shaped {k : Nat} {d : D} (h : d.nice k = true) (hk : k ≤ 64) : SeqAt.shaped d.py = true := by
  have h2 := nice_lay k d h
  unfold SeqAt.shaped
  rw [h2.1, decide_eq_true (Nat.le_trans h2.2 hk)]
  rfl
theorem nice_up : ∀ (k : Nat) (d : D), d.nice k = true → d.nice (k + 1) = true := by
  intro k
  induction k with
  | zero => intro d h; cases d <;> first | rfl | exact h | simp [D.nice] at h
  | succ k ih =>
    intro d h
    cases d with
    | tup ds => exact List.all_eq_true.mpr fun x hx => ih x (List.all_eq_true.mp h x hx)
    | lst ds => exact List.all_eq_true.mpr fun x hx => ih x (List.all_eq_true.mp h x hx)
    | _ => first | rfl | exact h | simp [D.nice] at h
theorem nice_le {k : Nat} {d : D} (h : d.nice k = true) {m : Nat} (hm : k ≤ m) : d.nice m = true := by
  induction hm with
  | refl => exact h
  | step _ ih => exact nice_up _ _ ih
theorem eqv_self : ∀ (k : Nat) (d : D), d.nice k = true → PyData.eqv d.py d.py = true := by
  have hl : ∀ (k : Nat), (∀ d : D, d.nice k = true → PyData.eqv d.py d.py = true) → ∀ ds : List D, ds.all (D.nice k) = true → PyData.eqvAll (D.pys ds) (D.pys ds) = true := by
    intro k ih ds
    induction ds with
    | nil => intro _; simp [D.pys, PyData.eqvAll]
    | cons d ds ih2 =>
      intro h
      rw [List.all_cons, Bool.and_eq_true] at h
      simp only [D.pys, PyData.eqvAll, ih d h.1, ih2 h.2, Bool.and_self]
  intro k
  induction k with
  | zero => intro d h; cases d <;> simp_all [D.nice, D.py, PyData.eqv]
  | succ k ih =>
    intro d h
    cases d with
    | tup ds => simp only [D.py, PyData.eqv]; exact hl k ih ds h
    | lst ds => simp only [D.py, PyData.eqv]; exact hl k ih ds h
    | _ => simp_all [D.nice, D.py, PyData.eqv]
theorem eqD_self {d : D} (h : d.nice 64 = true) : eqD d d = some true := by
  unfold eqD
  rw [nice_shaped h (Nat.le_refl _), eqv_self 64 d h]
  rfl
theorem eqD_nice {d e : D} (h : d.nice 64 = true) (h' : e.nice 64 = true) : eqD d e = some (PyData.eqv d.py e.py) := by
  unfold eqD
  rw [nice_shaped h (Nat.le_refl _), nice_shaped h' (Nat.le_refl _)]
  rfl

class Enc (α : Type) where
  enc : α → D
  dep : Nat
  nice : ∀ x, (enc x).nice dep = true
  eqv : ∀ [DecidableEq α] (x y : α), PyData.eqv (enc x).py (enc y).py = decide (x = y)
open Enc
/-- never None -/
class NN (α : Type) [Enc α] : Prop where
  nn : ∀ x : α, PyData.eqv (enc x).py .none = false ∧ PyData.eqv .none (enc x).py = false
instance : Enc Int := ⟨D.int, 0, fun _ => rfl, fun x y => by
  simp only [D.py, PyData.eqv]
  exact Bool.eq_iff_iff.mpr (by simp)⟩
instance : NN Int := ⟨fun _ => by simp [Enc.enc, D.py, PyData.eqv]⟩
instance : Enc Nat := ⟨fun n => D.int n, 0, fun _ => rfl, fun x y => by
  simp only [D.py, PyData.eqv]
  exact Bool.eq_iff_iff.mpr (by simp; omega)⟩
instance : NN Nat := ⟨fun _ => by simp [Enc.enc, D.py, PyData.eqv]⟩
instance : Enc Bool := ⟨D.bl, 0, fun _ => rfl, fun x y => by
  simp only [D.py, PyData.eqv]
  exact Bool.eq_iff_iff.mpr (by simp)⟩
instance : NN Bool := ⟨fun _ => by simp [Enc.enc, D.py, PyData.eqv]⟩
def encO {α : Type} [Enc α] : Option α → D
  | none => .non
  | some x => enc x
theorem nice_non : ∀ k, D.nice k .non = true
  | 0 => rfl
  | _ + 1 => rfl
instance {α : Type} [Enc α] [NN α] : Enc (Option α) := ⟨encO, dep α, fun x => by
  cases x with
  | none => exact nice_non _
  | some x => exact Enc.nice x, fun x y => by
  cases x with
  | none => cases y with
    | none => simp [encO, D.py, PyData.eqv]
    | some y => simp only [encO, D.py, (NN.nn y).2]; simp
  | some x => cases y with
    | none => simp only [encO, D.py, (NN.nn x).1]; simp
    | some y => have : DecidableEq α := fun a b => decidable_of_iff (some a = some b) (by simp)
                simp only [encO]; rw [Enc.eqv]; simp⟩
theorem eqvAll_enc {α : Type} [Enc α] [DecidableEq α] : ∀ xs ys : List α, PyData.eqvAll (D.pys (xs.map enc)) (D.pys (ys.map enc)) = decide (xs = ys)
  | [], [] => by simp [D.pys, PyData.eqvAll]
  | [], _ :: _ => by simp [D.pys, PyData.eqvAll]
  | _ :: _, [] => by simp [D.pys, PyData.eqvAll]
  | x :: xs, y :: ys => by
    simp only [D.pys, PyData.eqvAll, List.map_cons, Enc.eqv, eqvAll_enc xs ys]
    exact Bool.eq_iff_iff.mpr (by simp)
def tupE {α : Type} [Enc α] (xs : List α) : D := .tup (xs.map enc)
def lstE {α : Type} [Enc α] (xs : List α) : D := .lst (xs.map enc)
theorem nice_all {α : Type} [Enc α] (xs : List α) : (xs.map enc).all (D.nice (dep α)) = true := by
  rw [List.all_eq_true]
  intro d hd
  obtain ⟨x, _, rfl⟩ := List.mem_map.mp hd
  exact Enc.nice x
instance {α : Type} [Enc α] : Enc (List α) := ⟨tupE, dep α + 1, nice_all, fun xs ys => by
  have : DecidableEq α := fun a b => decidable_of_iff ([a] = [b]) (by simp)
  simp only [tupE, D.py, PyData.eqv]
  rw [eqvAll_enc]
  exact Bool.eq_iff_iff.mpr (by simp)⟩
instance {α : Type} [Enc α] : NN (List α) := ⟨fun _ => by simp [Enc.enc, tupE, D.py, PyData.eqv]⟩
def encP {α β : Type} [Enc α] [Enc β] (p : α × β) : D := .tup [enc p.1, enc p.2]
instance {α β : Type} [Enc α] [Enc β] : Enc (α × β) := ⟨encP, max (dep α) (dep β) + 1, fun p => by
  have h1 := nice_le (Enc.nice p.1) (Nat.le_max_left (dep α) (dep β))
  have h2 := nice_le (Enc.nice p.2) (Nat.le_max_right (dep α) (dep β))
  simp only [encP, D.nice, List.all_cons, List.all_nil, h1, h2, Bool.and_self], fun p q => by
  obtain ⟨a, b⟩ := p
  obtain ⟨c, d⟩ := q
  have : DecidableEq α := fun x y => decidable_of_iff ((x, b) = (y, b)) (by simp)
  have : DecidableEq β := fun x y => decidable_of_iff ((a, x) = (a, y)) (by simp)
  simp only [encP, D.py, D.pys, PyData.eqv, PyData.eqvAll, Enc.eqv]
  exact Bool.eq_iff_iff.mpr (by simp)⟩
instance {α β : Type} [Enc α] [Enc β] : NN (α × β) := ⟨fun _ => by simp [Enc.enc, encP, D.py, PyData.eqv]⟩
section
variable {α β : Type} [Enc α] [Enc β]
theorem enc_int (i : Int) : enc i = .int i := rfl
theorem enc_nat (i : Nat) : enc i = .int (i : Int) := rfl
theorem enc_bool (i : Bool) : enc i = .bl i := rfl
theorem enc_list (xs : List α) : enc xs = .tup (xs.map enc) := rfl
theorem enc_pair (a : α) (b : β) : enc (a, b) = .tup [enc a, enc b] := rfl
theorem enc_none [NN α] : enc (none : Option α) = .non := rfl
theorem enc_some [NN α] (x : α) : enc (some x) = enc x := rfl
theorem eqD_enc [DecidableEq α] (x y : α) (h : dep α ≤ 64 := by decide) : eqD (enc x) (enc y) = some (decide (x = y)) := by
  rw [eqD_nice (nice_le (Enc.nice x) h) (nice_le (Enc.nice y) h), Enc.eqv]
theorem eqD_tup [DecidableEq α] (x y : List α) (h : dep α ≤ 63 := by decide) : eqD (.tup (x.map enc)) (.tup (y.map enc)) = some (decide (x = y)) :=
  eqD_enc (α := List α) x y (by show dep α + 1 ≤ 64; omega)
theorem eqD_lst [DecidableEq α] (x y : List α) (h : dep α ≤ 63 := by decide) : eqD (.lst (x.map enc)) (.lst (y.map enc)) = some (decide (x = y)) := by
  rw [eqD_nice (nice_le (k := dep α + 1) (d := .lst (x.map enc)) (nice_all x) (by omega)) (nice_le (k := dep α + 1) (d := .lst (y.map enc)) (nice_all y) (by omega))]
  simp only [D.py, PyData.eqv]
  rw [eqvAll_enc]
theorem eqD_int (i j : Int) : eqD (.int i) (.int j) = some (decide (i = j)) := eqD_enc i j
theorem eqD_bl (i j : Bool) : eqD (.bl i) (.bl j) = some (decide (i = j)) := eqD_enc i j
theorem eqD_non : eqD .non .non = some true := by decide
theorem eqD_intN (i : Int) : eqD (.int i) .non = some false := eqD_enc (some i) none
theorem eqD_Nint (i : Int) : eqD .non (.int i) = some false := eqD_enc none (some i)
theorem intsD_int (xs : List Int) : intsD (xs.map D.int) = some xs := by
  induction xs with
  | nil => rfl
  | cons x xs ih => simp [intsD, ih]
theorem intsD_map {γ : Type} (f : γ → Int) (xs : List γ) : intsD (xs.map fun x => D.int (f x)) = some (xs.map f) := by
  induction xs with
  | nil => rfl
  | cons x xs ih => simp [intsD, ih]
theorem blsD_map {γ : Type} (f : γ → Bool) (xs : List γ) : blsD (xs.map fun x => D.bl (f x)) = some (xs.map f) := by
  induction xs with
  | nil => rfl
  | cons x xs ih => simp [blsD, ih]
theorem all_map_id {γ : Type} (f : γ → Bool) (xs : List γ) : (xs.map f).all id = xs.all f := by
  rw [List.all_map]; rfl
theorem any_map_id {γ : Type} (f : γ → Bool) (xs : List γ) : (xs.map f).any id = xs.any f := by
  rw [List.any_map]; rfl
theorem rgD_nat (n : Nat) : rgD 0 n = (List.range n).map enc := by
  unfold rgD
  rw [Int.sub_zero, Int.toNat_natCast]
  refine List.map_congr_left fun i _ => ?_
  rw [Int.zero_add]; rfl
theorem rgD_0 (n : Int) : rgD 0 n = (List.range n.toNat).map enc := by
  unfold rgD
  rw [Int.sub_zero]
  refine List.map_congr_left fun i _ => ?_
  rw [Int.zero_add]; rfl
theorem okRg_nat {n : Nat} (h : n ≤ 1000000) : okRg 0 n = true := by
  unfold okRg small
  simp only [Bool.and_eq_true, decide_eq_true_eq]
  omega
theorem okRg_int {n : Int} (h : n ≤ 1000000) (h0 : -1000000 ≤ n) : okRg 0 n = true := by
  unfold okRg small
  simp only [Bool.and_eq_true, decide_eq_true_eq]
  omega
theorem okLen_of {n : Nat} (h : n ≤ 1000000) : okLen n = true := by
  unfold okLen
  rw [sizeLine_eq]
  exact decide_eq_true (by omega)
theorem ltLine {n : Nat} (h : n ≤ 1000000) : n < sizeLine := by
  rw [sizeLine_eq]; omega
theorem small_of {i : Int} (h : i ≤ 1000000) (h0 : -1000000 ≤ i) : small i = true := by
  unfold small
  simp only [Bool.and_eq_true, decide_eq_true_eq]
  omega
theorem okDiv_of {j : Int} (h : 0 < j) (h2 : j < 2 ^ 60) : okDiv j = true := by
  have h3 := PySem.Flt.log2_lt_of (by decide : 0 < 60) (by omega : j.natAbs < 2 ^ 60)
  unfold okDiv
  rw [decide_eq_true h, decide_eq_true (by omega)]; rfl
theorem okMul_l {i j : Int} (h : i.natAbs < 2 ^ 60) : okMul i j = true := by
  unfold okMul; rw [decide_eq_true h]; rfl
theorem okMul_r {i j : Int} (h : j.natAbs < 2 ^ 60) : okMul i j = true := by
  unfold okMul; rw [decide_eq_true h]; simp
theorem atI_nat {γ : Type} (xs : List γ) (n : Nat) : L2.atI xs (n : Int) = xs[n]? := by
  unfold L2.atI L2.ixN
  rw [if_pos (by omega)]
  by_cases h : n < xs.length
  · rw [if_pos (by omega)]; simp
  · rw [if_neg (by omega), List.getElem?_eq_none (by omega)]; rfl
theorem atI_pos {γ : Type} (xs : List γ) {i : Int} (h : 0 ≤ i) : L2.atI xs i = xs[i.toNat]? := by
  have e := atI_nat xs i.toNat
  rwa [Int.toNat_of_nonneg h] at e
theorem atI_0 {γ : Type} (xs : List γ) : L2.atI xs 0 = xs[0]? := atI_nat xs 0
theorem atI_1 {γ : Type} (xs : List γ) : L2.atI xs 1 = xs[1]? := atI_nat xs 1
theorem atI_2 {γ : Type} (xs : List γ) : L2.atI xs 2 = xs[2]? := atI_nat xs 2
theorem atI_3 {γ : Type} (xs : List γ) : L2.atI xs 3 = xs[3]? := atI_nat xs 3
theorem atI_4 {γ : Type} (xs : List γ) : L2.atI xs 4 = xs[4]? := atI_nat xs 4
theorem ixN_nat {n i : Nat} (h : i < n) : L2.ixN n (i : Int) = some i := by
  unfold L2.ixN
  rw [if_pos (by omega), if_pos (by omega)]; simp
theorem setD_nat {ds : List D} {i : Nat} {d : D} (h : i < ds.length) : setD (i : Int) d ds = some (ds.set i d) := by
  unfold setD; rw [ixN_nat h]; rfl
theorem inD_T [DecidableEq α] (hf : ∀ x : α, flatD (enc x) = true) (he : ∀ x y : α, eqF (enc y) (enc x) = decide (x = y)) (x : α) (xs : List α) : (flatD (enc x) && (xs.map enc).all flatD) = true ∧ ((xs.map enc).any fun y => eqF y (enc x)) = decide (x ∈ xs) := by
  constructor
  · rw [hf, Bool.true_and, List.all_eq_true]
    intro d hd
    obtain ⟨y, _, rfl⟩ := List.mem_map.mp hd
    exact hf y
  · rw [List.any_map]
    apply Bool.eq_iff_iff.mpr
    rw [List.any_eq_true, decide_eq_true_eq]
    constructor
    · rintro ⟨y, hy, h⟩
      have := (he x y).symm.trans h
      rw [decide_eq_true_eq] at this
      subst this; exact hy
    · intro h
      exact ⟨x, h, by show eqF (enc x) (enc x) = true; rw [he]; simp⟩
theorem eqF_nat (x y : Nat) : eqF (enc y) (enc x) = decide (x = y) := by
  simp only [enc_nat, eqF]
  exact Bool.eq_iff_iff.mpr (by simp; omega)
theorem eqF_int (x y : Int) : eqF (enc y) (enc x) = decide (x = y) := by
  simp only [enc_int, eqF]
  exact Bool.eq_iff_iff.mpr (by simp; omega)
theorem inD_nat_t (x : Nat) (xs : List Nat) : inD (.int x) (.tup (xs.map enc)) = some (decide (x ∈ xs)) := by
  have h := inD_T (α := Nat) (fun _ => rfl) eqF_nat x xs
  show chk (flatD (enc x) && (xs.map enc).all flatD) (some ((xs.map enc).any fun y => eqF y (enc x))) = _
  rw [h.1, h.2]; rfl
theorem inD_nat_l (x : Nat) (xs : List Nat) : inD (.int x) (.lst (xs.map enc)) = some (decide (x ∈ xs)) := inD_nat_t x xs
theorem inD_int_t (x : Int) (xs : List Int) : inD (.int x) (.tup (xs.map enc)) = some (decide (x ∈ xs)) := by
  have h := inD_T (α := Int) (fun _ => rfl) eqF_int x xs
  show chk (flatD (enc x) && (xs.map enc).all flatD) (some ((xs.map enc).any fun y => eqF y (enc x))) = _
  rw [h.1, h.2]; rfl
theorem inD_int_l (x : Int) (xs : List Int) : inD (.int x) (.lst (xs.map enc)) = some (decide (x ∈ xs)) := inD_int_t x xs
theorem cntD_nat (x : Nat) (xs : List Nat) : cntD (.int x) (xs.map enc) = some (.val (.int (xs.count x : Nat))) := by
  unfold cntD
  have h := inD_T (α := Nat) (fun _ => rfl) eqF_nat x xs
  have h1 : (flatD (.int x) && (xs.map enc).all flatD) = true := h.1
  rw [h1]
  have e : ((xs.map enc).countP fun y => eqF y (.int x)) = xs.count x := by
    rw [List.countP_map, List.count]
    refine List.countP_congr fun y hy => ?_
    show eqF (enc y) (enc x) = true ↔ _
    rw [eqF_nat]; simp; omega
  rw [e]; rfl
theorem cntD_int (x : Int) (xs : List Int) : cntD (.int x) (xs.map enc) = some (.val (.int (xs.count x : Nat))) := by
  unfold cntD
  have h := inD_T (α := Int) (fun _ => rfl) eqF_int x xs
  have h1 : (flatD (.int x) && (xs.map enc).all flatD) = true := h.1
  rw [h1]
  have e : ((xs.map enc).countP fun y => eqF y (.int x)) = xs.count x := by
    rw [List.countP_map, List.count]
    refine List.countP_congr fun y hy => ?_
    show eqF (enc y) (enc x) = true ↔ _
    rw [eqF_int]; simp; omega
  rw [e]; rfl
end
/-! ### comprehensions over plain values -/
section
variable {vs : List Nat} {g : Sl → M Unit} {t : M Bool} {f : M Rv} {ρ : List Sl}
theorem comp_map {α : Type} (xs : List α) (e : α → D) (h : α → D) (hp : (vs.all fun i => plainSl ρ[i]?) = true) (hl : xs.length ≤ 1000000)
    (H : ∀ x ∈ xs, Rn (P := ⟨fun o ρ' => o = some (h x) ∧ wipeS vs ρ' = wipeS vs ρ, NoE⟩) (oneC vs g t f (e x) (wipeS vs ρ))) :
    compM vs (loopC vs g t f (xs.map e)) ρ = .ok (.own (.lst (xs.map h))) ρ := by
  have z := comp_pure (vs := vs) (g := g) (t := t) (f := f) (ρ := ρ) xs e (fun _ => true) h hp (by rw [List.length_map]; exact okLen_of (Nat.le_trans (List.length_filter_le ..) hl)) H
  rwa [List.filter_eq_self.mpr fun _ _ => rfl] at z
theorem comp_filter {α : Type} (xs : List α) (e : α → D) (c : α → Bool) (h : α → D) (hp : (vs.all fun i => plainSl ρ[i]?) = true) (hl : xs.length ≤ 1000000)
    (H : ∀ x ∈ xs, Rn (P := ⟨fun o ρ' => o = (if c x then some (h x) else none) ∧ wipeS vs ρ' = wipeS vs ρ, NoE⟩) (oneC vs g t f (e x) (wipeS vs ρ))) :
    compM vs (loopC vs g t f (xs.map e)) ρ = .ok (.own (.lst ((xs.filter c).map h))) ρ :=
  comp_pure xs e c h hp (by rw [List.length_map]; exact okLen_of (Nat.le_trans (List.length_filter_le ..) hl)) H
end
theorem ok0 : okLen 0 = true := okLen_of (by decide)
theorem ok1 : okLen 1 = true := okLen_of (by decide)
theorem ok2 : okLen 2 = true := okLen_of (by decide)
theorem ok3 : okLen 3 = true := okLen_of (by decide)
theorem ok4 : okLen 4 = true := okLen_of (by decide)
theorem ok5 : okLen 5 = true := okLen_of (by decide)
theorem ok6 : okLen 6 = true := okLen_of (by decide)
theorem ok7 : okLen 7 = true := okLen_of (by decide)
theorem ok8 : okLen 8 = true := okLen_of (by decide)
theorem ok9 : okLen 9 = true := okLen_of (by decide)
theorem ok10 : okLen 10 = true := okLen_of (by decide)
theorem ok11 : okLen 11 = true := okLen_of (by decide)
theorem ok12 : okLen 12 = true := okLen_of (by decide)
theorem ok13 : okLen 13 = true := okLen_of (by decide)
theorem ok14 : okLen 14 = true := okLen_of (by decide)
theorem ok15 : okLen 15 = true := okLen_of (by decide)
theorem ok16 : okLen 16 = true := okLen_of (by decide)
theorem ok17 : okLen 17 = true := okLen_of (by decide)
theorem ok18 : okLen 18 = true := okLen_of (by decide)
theorem ok19 : okLen 19 = true := okLen_of (by decide)
/-- a slot that may be stored into -/
def Fre (s : Sl) : Prop := ∀ i t ρ, stoO (some s) i t ρ = .ok () (ρ.set i t)
theorem Fre.emp : Fre .emp := fun _ _ _ => rfl
theorem Fre.val {d : D} : Fre (.val d) := fun _ _ _ => rfl
theorem Fre.own {o : Ob} : Fre (.own o) := fun _ _ _ => rfl
/-! ### loops over plain values -/
section
variable {Q : Pyd.Flow → List Sl → Prop} {E : Str → Option D → List Sl → Prop} {g : Sl → M Unit} {b : M Pyd.Flow}
theorem loop_list {α σ : Type} (e : α → D) (S : σ → List Sl) (I : List α → σ → Prop) (xs : List α) (s : σ) (h0 : I xs s)
    (step : ∀ x xs s, I (x :: xs) s → Rn (P := ⟨fun _ ρ' => Rn (P := ⟨fun fl ρ'' => match fl with | .nx => ∃ s', S s' = ρ'' ∧ I xs s' | .ret r => Q (.ret r) ρ'', E⟩) (b ρ'), E⟩) (g (.val (e x)) (S s)))
    (fin : ∀ s, I [] s → Q .nx (S s)) : Rn (P := ⟨Q, E⟩) (loopF g b (xs.map e) (S s)) := by
  refine loopF_run (fun ds ρ => ∃ xs s, ds = xs.map e ∧ ρ = S s ∧ I xs s) ?_ ?_ _ _ ⟨xs, s, rfl, rfl, h0⟩
  · rintro d ds ρ ⟨xs, s, e1, rfl, h⟩
    cases xs with
    | nil => cases e1
    | cons x xs =>
      cases e1
      refine (step x xs s h).mono (fun _ ρ' h' => h'.mono (fun fl ρ'' h'' => ?_) fun _ _ _ e => e) fun _ _ _ e => e
      cases fl with
      | nx => obtain ⟨s', e, h⟩ := h''; exact ⟨xs, s', rfl, e.symm, h⟩
      | ret r => exact h''
  · rintro ρ ⟨xs, s, e1, rfl, h⟩
    cases xs with
    | nil => exact fin s h
    | cons x xs => cases e1
theorem loop_enum {α σ : Type} (e : α → D) (S : σ → List Sl) (I : List α → Nat → σ → Prop) (xs : List α) (k : Nat) (s : σ) (h0 : I xs k s)
    (step : ∀ x xs k s, I (x :: xs) k s → Rn (P := ⟨fun _ ρ' => Rn (P := ⟨fun fl ρ'' => match fl with | .nx => ∃ s', S s' = ρ'' ∧ I xs (k + 1) s' | .ret r => Q (.ret r) ρ'', E⟩) (b ρ'), E⟩) (g (.val (.tup [.int (k : Nat), e x])) (S s)))
    (fin : ∀ k s, I [] k s → Q .nx (S s)) : Rn (P := ⟨Q, E⟩) (loopF g b (((xs.map e).zipIdx k).map fun p => D.tup [.int (p.2 : Nat), p.1]) (S s)) := by
  refine loopF_run (fun ds ρ => ∃ xs k s, ds = (((xs.map e).zipIdx k).map fun p => D.tup [.int (p.2 : Nat), p.1]) ∧ ρ = S s ∧ I xs k s) ?_ ?_ _ _ ⟨xs, k, s, rfl, rfl, h0⟩
  · rintro d ds ρ ⟨xs, k, s, e1, rfl, h⟩
    cases xs with
    | nil => cases e1
    | cons x xs =>
      cases e1
      refine (step x xs k s h).mono (fun _ ρ' h' => h'.mono (fun fl ρ'' h'' => ?_) fun _ _ _ e => e) fun _ _ _ e => e
      cases fl with
      | nx => obtain ⟨s', e, h⟩ := h''; exact ⟨xs, k + 1, s', rfl, e.symm, h⟩
      | ret r => exact h''
  · rintro ρ ⟨xs, k, s, e1, rfl, h⟩
    cases xs with
    | nil => exact fin k s h
    | cons x xs => cases e1
end
/-! ### calls that are lent a list -/
theorem argsOf_vals (ρ : List Sl) : ∀ ds : List D, argsOf [] (ds.map Rv.val) ρ = .ok (ds.map Sl.val) ρ
  | [] => rfl
  | d :: ds => by
    rw [argS_eq, List.map_cons]
    unfold argS M.bnd
    simp only [← argS_eq, argsOf_vals ρ ds, argOf0_val]
    rfl
/-- the end of a call to which what slot i holds is lent -/
def callL (R : Nat → List Sl → Out Rv) (k i : Nat) (ss : List Sl) (ρ : List Sl) : Out Rv := match ownSl ρ[i]? && isBor (ss.headD .emp) with
  | true => match R k ss with
    | .ok r ss' => match noVar r && decide (ss'.length = ss.length) with
      | true => .ok r (back [true] [.var i] ss' ρ)
      | false => .bad
    | .exc c x ss' => match decide (ss'.length = ss.length) with
      | true => .exc c x (back [true] [.var i] ss' ρ)
      | false => .bad
    | .bad => .bad
  | false => .bad
theorem Rn.callK1 {R : Nat → List Sl → Out Rv} {k i : Nat} {rs : List Rv} {Q : Rv → List Sl → Prop} {E : Str → Option D → List Sl → Prop} {ρ : List Sl} : Rn (P := ⟨Q, E⟩) (callK R [true] k (.var i :: rs) ρ) = Rn (P := ⟨fun s ρ => Rn (P := ⟨fun ss ρ => Rn (P := ⟨Q, E⟩) (callL R k i (s :: ss) ρ), E⟩) (argS rs ρ), E⟩) (borO ρ[i]? ρ) := by
  have l1 : lent [true] (.var i :: rs) = [i] := by
    show i :: lent [] rs = [i]
    rw [lent_nil]
  have nd : decide ([i].Nodup) = true := by simp
  have b1 : ∀ (s : Sl) (ss : List Sl), borAll [true] (.var i :: rs) (s :: ss) = isBor s := fun s ss => by
    show (isBor _ && borAll [] rs ss) = _
    unfold borAll; simp
  have bk : ∀ (rs : List Rv) (ss : List Sl) (ρ : List Sl), back [] rs ss ρ = ρ := fun rs ss ρ => by unfold back; rfl
  have bk2 : ∀ (ss : List Sl) (ρ : List Sl), back [true] (.var i :: rs) ss ρ = back [true] [.var i] ss ρ := fun ss ρ => by
    cases ss with
    | nil => rfl
    | cons s ss => cases s <;> simp [back, bk]
  unfold callK
  rw [l1, nd]
  show Rn (P := ⟨Q, E⟩) (M.bnd (argsOf _ _) _ ρ) = _
  rw [Rn.bnd]
  unfold argsOf
  rw [Rn.bnd]
  rw [argOf1_var]
  refine Rn.ext fun s ρ => ?_
  rw [argS_eq, Rn.bnd]
  refine Rn.ext fun ss ρ => ?_
  rw [Rn.ret]
  simp only [b1, bk2, List.all_cons, List.all_nil, Bool.and_true, callL, List.headD_cons]
  try rfl
def reO (o : Option Sl) (h : List D) : Sl := match o with
  | some (.bor _) => .bor (.lst h)
  | _ => .own (.lst h)
theorem reO_own {o : Ob} {h : List D} : reO (some (.own o)) h = .own (.lst h) := rfl
theorem reO_bor {o : Ob} {h : List D} : reO (some (.bor o)) h = .bor (.lst h) := rfl
theorem callL_ok {R : Nat → List Sl → Out Rv} {k i : Nat} {h h' : List D} {r : Rv} {ss ss' ρ : List Sl} (hr : noVar r = true) (hρ : ownSl ρ[i]? = true) (hl : ss'.length = ss.length) (e : R k (.bor (.lst h) :: ss) = .ok r (.bor (.lst h') :: ss')) :
    callL R k i (.bor (.lst h) :: ss) ρ = .ok r (ρ.set i (reO ρ[i]? h')) := by
  have bk : ∀ (rs : List Rv) (ss : List Sl) (ρ : List Sl), back [] rs ss ρ = ρ := fun rs ss ρ => by unfold back; rfl
  unfold callL
  simp only [hρ, List.headD_cons, isBor, Bool.and_self, e, hr, List.length_cons, hl, decide_true, back, bk]
  cases h2 : ρ[i]? with
  | none => rw [h2] at hρ; cases hρ
  | some s => cases s with
    | own o => rfl
    | bor o => rfl
    | emp => rw [h2] at hρ; cases hρ
    | val d => rw [h2] at hρ; cases hρ
/-- a comprehension that changes what it is lent -/
theorem comp_run {α β σ : Type} {vs : List Nat} {g : Sl → M Unit} {t : M Bool} {f : M Rv} {Q : Rv → List Sl → Prop} {E : Str → Option D → List Sl → Prop} (e : α → D) (eb : β → D) (S : σ → List Sl) (I : List α → List β → σ → Prop) (xs : List α) (s : σ)
    (hp : (vs.all fun i => plainSl (S s)[i]?) = true) (h0 : I xs [] s)
    (step : ∀ x xs acc s, I (x :: xs) acc s → Rn (P := ⟨fun o ρ' => ∃ s', S s' = ρ' ∧ ((o = none ∧ I xs acc s') ∨ ∃ y, o = some (eb y) ∧ I xs (acc ++ [y]) s'), NoE⟩) (oneC vs g t f (e x) (S s)))
    (fin : ∀ acc s', I [] acc s' → acc.length ≤ 1000000 ∧ Q (.own (.lst (acc.map eb))) (restS vs (S s) (S s'))) : Rn (P := ⟨Q, E⟩) (compM vs (loopC vs g t f (xs.map e)) (S s)) := by
  have h := loopC_run (vs := vs) (g := g) (t := t) (f := f) (E := NoE) (fun ds acc ρ => ∃ xs ys s, ds = xs.map e ∧ acc = ys.map eb ∧ ρ = S s ∧ I xs ys s) (by
    rintro d ds acc ρ ⟨xs, ys, s, e1, rfl, rfl, h⟩
    cases xs with
    | nil => cases e1
    | cons x xs =>
      cases e1
      refine (step x xs ys s h).mono (fun o ρ' h' => ?_) fun _ _ _ e => e
      obtain ⟨s', rfl, h | ⟨y, rfl, h⟩⟩ := h'
      · obtain ⟨rfl, h⟩ := h
        exact ⟨xs, ys, s', rfl, by simp, rfl, h⟩
      · exact ⟨xs, ys ++ [y], s', rfl, by simp, rfl, h⟩) (xs.map e) [] (S s) ⟨xs, [], s, rfl, rfl, rfl, h0⟩
  unfold compM
  rw [hp]
  cases hm : loopC vs g t f (xs.map e) (S s) with
  | ok ys ρ' =>
    rw [hm, Rn.ok] at h
    obtain ⟨xs', ys', s', e1, e2, rfl, hI⟩ := h
    cases xs' with
    | cons _ _ => cases e1
    | nil =>
      have e2 : ys = ys'.map eb := e2
      subst e2
      have f := fin ys' s' hI
      have hl : okLen (ys'.map eb).length = true := by rw [List.length_map]; exact okLen_of f.1
      simp only [hm, hl, Rn.ok]
      exact f.2
  | exc c x ρ' => rw [hm, Rn.exc] at h; exact h.elim
  | bad => rw [hm] at h; exact Rn.of_no h
abbrev tEn {α : Type} [Enc α] (xs : List α) : D := .tup (xs.map enc)
abbrev oE {α : Type} [Enc α] (xs : List α) : Ob := .lst (xs.map enc)
abbrev lE {α : Type} [Enc α] (xs : List α) : D := .lst (xs.map enc)
theorem isD_opt {o : Option Nat} : isD (enc o) .non = some o.isNone := by cases o <;> rfl
theorem isD_optI {o : Option Int} : isD (enc o) .non = some o.isNone := by cases o <;> rfl
theorem eqD_optN (x y : Option Nat) : eqD (enc x) (enc y) = some (decide (x = y)) := eqD_enc x y
theorem eqD_optI (x y : Option Int) : eqD (enc x) (enc y) = some (decide (x = y)) := eqD_enc x y
theorem isi_strI {s : Str} : isiD (.str s) "int" = some false := rfl
theorem isi_blI {b : Bool} : isiD (.bl b) "int" = some true := rfl
theorem isi_blB {b : Bool} : isiD (.bl b) "bool" = some true := rfl
theorem isi_nnI : isiD .non "int" = some false := rfl
theorem isi_ttI {ds : List D} : isiD (.tup ds) "int" = some false := rfl
theorem isi_llI {ds : List D} : isiD (.lst ds) "int" = some false := rfl
theorem isi_llL {ds : List D} : isiD (.lst ds) "list" = some true := rfl
theorem isi_blT {b : Bool} : isiD (.bl b) "tuple" = some false := rfl
theorem eqD_strs (s t : Str) (h : (PyData.str s).canLay0 = true) (h2 : (PyData.str t).canLay0 = true) : eqD (.str s) (.str t) = some (s == t) := by
  rw [eqD_nice (d := .str s) (e := .str t) h h2]
  simp [D.py, PyData.eqv]
theorem eqD_tI (x y : List Int) : eqD (.tup (x.map enc)) (.tup (y.map enc)) = some (decide (x = y)) := eqD_tup x y
theorem eqD_tN (x y : List Nat) : eqD (.tup (x.map enc)) (.tup (y.map enc)) = some (decide (x = y)) := eqD_tup x y
theorem eqD_lI (x y : List Int) : eqD (.lst (x.map enc)) (.lst (y.map enc)) = some (decide (x = y)) := eqD_lst x y
theorem eqD_lN (x y : List Nat) : eqD (.lst (x.map enc)) (.lst (y.map enc)) = some (decide (x = y)) := eqD_lst x y
theorem zip_enc {α β : Type} [Enc α] [Enc β] (xs : List α) (ys : List β) : ((xs.map enc).zip (ys.map enc)).map (fun p => D.tup [p.1, p.2]) = (xs.zip ys).map enc := by
  rw [List.zip_map, List.map_map]
  rfl
theorem ixN_int {n : Nat} {i : Int} (h : 0 ≤ i) (h2 : i < n) : L2.ixN n i = some i.toNat := by
  unfold L2.ixN
  rw [if_pos h, if_pos h2]
theorem erase_map {α β : Type} (f : α → β) : ∀ (xs : List α) (k : Nat), (xs.map f).eraseIdx k = (xs.eraseIdx k).map f
  | [], _ => rfl
  | _ :: _, 0 => rfl
  | x :: xs, k + 1 => by simp [erase_map f xs k]
theorem set_map {α β : Type} (f : α → β) (xs : List α) (k : Nat) (y : α) : (xs.map f).set k (f y) = (xs.set k y).map f := List.map_set.symm
theorem le_maxI : ∀ {xs : List Int} {x : Int}, x ∈ xs → x ≤ maxI xs
  | [], _, h => nomatch h
  | [y], x, h => by rw [List.mem_singleton.mp h]; exact Int.le_refl _
  | y :: z :: r, x, h => by
    show x ≤ max y (maxI (z :: r))
    rcases List.mem_cons.mp h with rfl | h
    · exact Int.le_max_left _ _
    · exact Int.le_trans (le_maxI h) (Int.le_max_right _ _)
theorem minI_le : ∀ {xs : List Int} {x : Int}, x ∈ xs → minI xs ≤ x
  | [], _, h => nomatch h
  | [y], x, h => by rw [List.mem_singleton.mp h]; exact Int.le_refl _
  | y :: z :: r, x, h => by
    show min y (minI (z :: r)) ≤ x
    rcases List.mem_cons.mp h with rfl | h
    · exact Int.min_le_left _ _
    · exact Int.le_trans (Int.min_le_right _ _) (minI_le h)
theorem maxI_mem : ∀ {xs : List Int}, xs ≠ [] → maxI xs ∈ xs
  | [], h => (h rfl).elim
  | [y], _ => List.mem_singleton.mpr rfl
  | y :: z :: r, _ => by
    show max y (maxI (z :: r)) ∈ _
    rcases Int.le_total y (maxI (z :: r)) with h | h
    · rw [Int.max_eq_right h]; exact List.mem_cons_of_mem _ (maxI_mem (by simp))
    · rw [Int.max_eq_left h]; exact List.mem_cons_self
theorem minI_mem : ∀ {xs : List Int}, xs ≠ [] → minI xs ∈ xs
  | [], h => (h rfl).elim
  | [y], _ => List.mem_singleton.mpr rfl
  | y :: z :: r, _ => by
    show min y (minI (z :: r)) ∈ _
    rcases Int.le_total y (minI (z :: r)) with h | h
    · rw [Int.min_eq_left h]; exact List.mem_cons_self
    · rw [Int.min_eq_right h]; exact List.mem_cons_of_mem _ (minI_mem (by simp))
/-- slots that may all be stored into -/
def FreL (r : List Sl) (n : Nat) : Prop := r.length = n ∧ ∀ s ∈ r, Fre s
theorem intsD_enc (xs : List Int) : intsD (xs.map enc) = some xs := intsD_int xs
theorem intsD_encN (xs : List Nat) : intsD (xs.map enc) = some (xs.map fun (i : Nat) => (i : Int)) := intsD_map (fun (i : Nat) => (i : Int)) xs
theorem intsD_cons (i : Int) (r : List D) : intsD (.int i :: r) = (intsD r).map (i :: ·) := rfl
theorem intsD_nil : intsD [] = some [] := rfl
theorem blsD_enc (xs : List Bool) : blsD (xs.map enc) = some xs := by
  have := blsD_map (fun b : Bool => b) xs
  rwa [List.map_id'] at this
theorem erase_perm {α : Type} : ∀ (l : List α) (k : Nat) (h : k < l.length), (l[k] :: l.eraseIdx k).Perm l
  | [], _, h => absurd h (Nat.not_lt_zero _)
  | x :: l, 0, _ => List.Perm.refl _
  | x :: l, k + 1, h => by
    have h' : k < l.length := Nat.lt_of_succ_lt_succ h
    have ih := erase_perm l k h'
    exact (List.Perm.swap x (l[k]'h') (l.eraseIdx k)).trans (ih.cons x)
theorem loopW_run {σ : Type} {Q : Pyd.Flow → List Sl → Prop} {E : Str → Option D → List Sl → Prop} {t : M Bool} {b : M Pyd.Flow} (S : σ → List Sl) (I : σ → Prop) (m : σ → Nat)
    (step : ∀ s, I s → Rn (P := ⟨fun c ρ' => (c = false → Q .nx ρ') ∧ (c = true → Rn (P := ⟨fun fl ρ'' => match fl with | .nx => ∃ s', S s' = ρ'' ∧ I s' ∧ m s' < m s | .ret r => Q (.ret r) ρ'', E⟩) (b ρ')), E⟩) (t (S s))) :
    ∀ (k : Nat) (s : σ), I s → m s < k → Rn (P := ⟨Q, E⟩) (loopW t b k (S s))
  | 0, s, _, h => absurd h (Nat.not_lt_zero _)
  | k + 1, s, hI, h => by
    unfold loopW
    rw [Rn.bnd]
    refine (step s hI).mono (fun c ρ' h' => ?_) fun _ _ _ e => e
    cases c with
    | false => exact cast Rn.ok.symm (h'.1 rfl)
    | true =>
      show Rn (P := ⟨Q, E⟩) (M.bnd b _ ρ')
      rw [Rn.bnd]
      refine (h'.2 rfl).mono (fun fl ρ'' h'' => ?_) fun _ _ _ e => e
      cases fl with
      | nx =>
        obtain ⟨s', rfl, hI', hm⟩ := h''
        exact loopW_run S I m step k s' hI' (by omega)
      | ret r => exact cast Rn.ok.symm h''
theorem cN0 : ((0 : Nat) : Int) = 0 := rfl
theorem cN1 : ((1 : Nat) : Int) = 1 := rfl
theorem cN2 : ((2 : Nat) : Int) = 2 := rfl
theorem cN3 : ((3 : Nat) : Int) = 3 := rfl
theorem cN4 : ((4 : Nat) : Int) = 4 := rfl
theorem cN5 : ((5 : Nat) : Int) = 5 := rfl
theorem cN6 : ((6 : Nat) : Int) = 6 := rfl
theorem cN7 : ((7 : Nat) : Int) = 7 := rfl
theorem cN8 : ((8 : Nat) : Int) = 8 := rfl
theorem cN9 : ((9 : Nat) : Int) = 9 := rfl
theorem cN10 : ((10 : Nat) : Int) = 10 := rfl
theorem cN11 : ((11 : Nat) : Int) = 11 := rfl
end Pyd
end

section
set_option Elab.async false
set_option linter.all false
set_option maxRecDepth 100000
set_option maxHeartbeats 4000000
namespace K78
open PySem Pyd L2 Pyd.M Pyd.Enc
local macro_rules | `(tactic| simp_arith [$as,*]) => `(tactic| simp only [Pyd.Rn.ok, Pyd.Rn.exc, Pyd.Rn.no, Pyd.Rn.bnd, Pyd.Rn.guard, Pyd.Rn.opt_some, Pyd.Rn.seq, Pyd.Rn.ifM, Pyd.Rn.forM, Pyd.Rn.loopNil, Pyd.Rn.oneC, Pyd.varM_ap, Pyd.varO_val, Pyd.varO_own, Pyd.varO_bor, Pyd.look_val, Pyd.look_own, Pyd.look_var, Pyd.lookO_val, Pyd.lookO_own, Pyd.lookO_bor, Pyd.frz_val, Pyd.frz_own, Pyd.frz_var, Pyd.frzO_val, Pyd.frzO_own, Pyd.toSl_val, Pyd.toSl_own, Pyd.argOf0_val, Pyd.argOf0_own, Pyd.argOf1_val, Pyd.argOf1_own, Pyd.argOf1_var, Pyd.borO_own, Pyd.borO_bor, Pyd.borO_val, Pyd.storeAt_ap, Pyd.stoO_emp, Pyd.stoO_val, Pyd.stoO_own, Pyd.data_lst, Pyd.Rn.ret, Pyd.Rn.toSl_var, Pyd.Rn.argOf0_var, Pyd.Rn.frzs_nil, Pyd.Rn.frzs_cons, Pyd.Rn.looks_nil, Pyd.Rn.looks_cons, Pyd.Rn.toSls_nil, Pyd.Rn.toSls_cons, Pyd.Rn.argsM_nil, Pyd.Rn.argsM_cons, Pyd.Rn.tupM, Pyd.Rn.lstM, Pyd.Rn.lift1, Pyd.Rn.lift2, Pyd.Rn.binM, Pyd.Rn.unM, Pyd.Rn.andM1, Pyd.Rn.andM, Pyd.Rn.orM1, Pyd.Rn.orM, Pyd.Rn.cmp1M, Pyd.Rn.cmp2M, Pyd.Rn.ixM, Pyd.Rn.ifE, Pyd.Rn.partM_none, Pyd.Rn.partM_some, Pyd.Rn.slM, Pyd.Rn.compE, Pyd.Rn.callF, Pyd.Rn.argS_nil, Pyd.Rn.argS_cons, Pyd.Rn.callK0, Pyd.gotO_val, Pyd.gotO_own, Pyd.gotO_exc, Pyd.Rn.biM, Pyd.Rn.tyM, Pyd.Rn.isiM, Pyd.Rn.lstRg, Pyd.Rn.tupRg, Pyd.Rn.chM, Pyd.chVar_ap, Pyd.Rn.chO_own, Pyd.Rn.chO_bor, Pyd.Rn.mtM, Pyd.Rn.lamM, Pyd.Rn.andT1, Pyd.Rn.andT, Pyd.Rn.orT1, Pyd.Rn.orT, Pyd.Rn.notT, Pyd.Rn.rvT, Pyd.Rn.truT, Pyd.Rn.rgM, Pyd.Rn.rg1, Pyd.Rn.rg2, Pyd.Rn.itE, Pyd.Rn.enE, Pyd.Rn.zpE, Pyd.Rn.asgs_nil, Pyd.Rn.asgs_cons, Pyd.Rn.tgT, Pyd.putVar_ap, Pyd.Rn.putO_own, Pyd.Rn.putO_bor, Pyd.Rn.tgS, Pyd.Rn.asgE, Pyd.Rn.parE, Pyd.Rn.exprM, Pyd.Rn.retM, Pyd.raisM_ap, Pyd.augM_ap, Pyd.Rn.augO, Pyd.bin_add, Pyd.bin_addT, Pyd.bin_addL, Pyd.bin_sub, Pyd.bin_mul, Pyd.bin_mulT, Pyd.bin_mulL, Pyd.bin_div, Pyd.bin_mod, Pyd.bin_pow, Pyd.aug_add, Pyd.aug_sub, Pyd.un_neg, Pyd.un_not, Pyd.cmp_eq, Pyd.cmp_ne, Pyd.cmp_lt, Pyd.cmp_le, Pyd.cmp_gt, Pyd.cmp_ge, Pyd.cmp_is, Pyd.cmp_isnot, Pyd.cmp_in, Pyd.cmp_notin, Pyd.is_bl, Pyd.is_nn, Pyd.is_in, Pyd.is_tn, Pyd.tru_bl, Pyd.tru_int, Pyd.tru_tup, Pyd.tru_lst, Pyd.ix_tup, Pyd.ix_lst, Pyd.seq_tup, Pyd.seq_lst, Pyd.bi_len_t, Pyd.bi_len_l, Pyd.bi_all, Pyd.bi_any, Pyd.bi_sum, Pyd.bi_max, Pyd.bi_min, Pyd.bi_max2, Pyd.bi_min2, Pyd.bi_abs, Pyd.ty_int, Pyd.ty_intb, Pyd.ty_bool, Pyd.ty_booli, Pyd.ty_tt, Pyd.ty_tl, Pyd.ty_lt, Pyd.ty_ll, Pyd.isi_int, Pyd.isi_inb, Pyd.isi_tt, Pyd.isi_lt, Pyd.isi_it, Pyd.isi_nt, Pyd.isi_st, Pyd.ch_app, Pyd.ch_ext, Pyd.ch_pop, Pyd.ch_pop0, Pyd.mto_ct, Pyd.mto_cl, Pyd.mto_il, Pyd.alk_t, Pyd.alk_l, Pyd.mt_ct, Pyd.mt_cl, Pyd.mt_il, Pyd.own_own, Pyd.own_bor, Pyd.plain_emp, Pyd.plain_val, Pyd.sl_t, Pyd.sl_l, Pyd.ret_nx, Pyd.ret_val, Pyd.ret_own, Pyd.so_nil, Pyd.so_val, Pyd.so_bor, Pyd.ret_var, Pyd.rtO_own, Pyd.rtO_val, Pyd.Rn.chk, Pyd.Rn.optMap, Pyd.Rn.optBind, List.getElem?_cons_zero, List.getElem?_cons_succ, List.set_cons_zero, List.set_cons_succ, Option.map_some, Option.bind_some, List.length_cons, List.length_nil, List.map_cons, List.map_nil, List.all_cons, List.all_nil, Pyd.wipeS, List.foldr_cons, List.foldr_nil, Bool.and_self, Bool.and_true, Bool.true_and, decide_true, forall_const, true_implies, reduceCtorEq, false_implies, and_true, true_and, Option.some.injEq, exists_eq_left, exists_eq_left', Pyd.Rv.val.injEq, Pyd.D.bl.injEq, Pyd.D.int.injEq, exists_and_left, Nat.reduceAdd, Bool.not_true, Bool.not_false, Bool.not_eq_true', Pyd.blsD, Pyd.enc_int, Pyd.enc_nat, Pyd.enc_bool, Pyd.enc_list, Pyd.enc_pair, Pyd.atI_nat, Pyd.atI_0, Pyd.atI_1, Pyd.atI_2, Pyd.atI_3, Pyd.atI_4, Pyd.rgD_nat, Pyd.eqD_int, Pyd.eqD_bl, Pyd.eqD_non, Pyd.eqD_intN, Pyd.eqD_Nint, Pyd.intsD_int, Pyd.intsD_map, Pyd.blsD_map, Pyd.inD_nat_t, Pyd.inD_nat_l, Pyd.inD_int_t, Pyd.inD_int_l, Pyd.cntD_nat, Pyd.cntD_int, List.getElem?_map, Option.map_map, Pyd.ok0, Pyd.ok1, Pyd.ok2, Pyd.ok3, Pyd.ok4, Pyd.ok5, Pyd.ok6, Pyd.ok7, Pyd.ok8, Pyd.ok9, Pyd.ok10, Pyd.ok11, Pyd.ok12, Pyd.ok13, Pyd.ok14, Pyd.ok15, Pyd.ok16, Pyd.ok17, Pyd.ok18, Pyd.ok19, decide_eq_true_eq, decide_eq_false_iff_not, Int.not_lt, Int.not_le, Int.reduceLT, Int.reduceLE, Int.reduceToNat, Int.reducePow, Nat.reducePow, Nat.reduceLT, Nat.reduceLeDiff, Bool.and_eq_true, Int.reduceEq, Nat.reduceEqDiff, Int.reduceNeg, Int.reduceAdd, Int.reduceSub, Int.reduceMul, Int.reduceNe, Int.lt_irrefl, decide_false, Bool.false_and, Bool.and_false, ne_eq, not_true_eq_false, not_false_eq_true, Pyd.Rn.callK1, Pyd.reO_own, Pyd.reO_bor, List.nil_append, List.cons_append, List.append_nil, Pyd.isD_opt, Pyd.isD_optI, Pyd.eqD_optN, Pyd.eqD_optI, Pyd.isi_strI, Pyd.isi_blI, Pyd.isi_blB, Pyd.isi_nnI, Pyd.isi_ttI, Pyd.isi_llI, Pyd.isi_llL, Pyd.isi_blT, Pyd.eqD_tI, Pyd.eqD_tN, Pyd.eqD_lI, Pyd.eqD_lN, Pyd.zip_enc, Pyd.intsD_enc, Pyd.intsD_encN, Pyd.intsD_cons, Pyd.intsD_nil, Pyd.blsD_enc, Pyd.cN0, Pyd.cN1, Pyd.cN2, Pyd.cN3, Pyd.cN4, Pyd.cN5, Pyd.cN6, Pyd.cN7, Pyd.cN8, Pyd.cN9, Pyd.cN10, Pyd.cN11, Pyd.minO_some, Pyd.cmp_ltT, Pyd.ltT_some, Pyd.Rn.rg3, Pyd.Rn.rgM3, Pyd.Rn.revE, Pyd.rev_t, Pyd.rev_l, Pyd.bi_repr, Pyd.bi_sumT, $as,*])

/-- a hand, as the draws leave it -/
def HOk (h : List D) : Prop := ∃ (cells : List Int) (a b c d : Int), h = [.lst (cells.map D.int), .int a, .int b, .int c, .int d] ∧ 0 ≤ a ∧ 0 ≤ b ∧ cells.length ≤ 63
/-- from a run to an equation -/
theorem run_eq {α : Type} {o : Out α} {Q : α → List Sl → Prop} (h : Rn (P := ⟨Q, NoE⟩) o) : ∃ a ρ, o = .ok a ρ ∧ Q a ρ := by
  cases o with
  | ok a ρ => exact ⟨a, ρ, rfl, cast Rn.ok h⟩
  | exc c x ρ => rw [Rn.exc] at h; exact h.elim
  | bad => exact Rn.of_no h
theorem ml6 {i : Int} : okMul 7 i = true := okMul_l (by decide)
theorem ml7 {i : Int} : okMul 5 i = true := okMul_l (by decide)
theorem s_law_hand (n : Nat) (ns : List Int) (hn : ns.length ≤ 63) : ∃ h, HOk h ∧ lev P (n + 1) 14 [.val (.scr ns)] = .ok (.own (.lst h)) [.val (.scr ns)] := by
  have hc : cutD (ns.map D.int) none (some 63) = ns.map D.int := by
    unfold cutD
    rw [show HT.sIx (ns.map D.int).length 0 none = 0 from rfl, show HT.sIx (ns.map D.int).length (ns.map D.int).length (some 63) = min 63 (ns.map D.int).length from rfl, List.drop_zero, Nat.sub_zero, List.take_of_length_le]
    rw [List.length_map]; omega
  suffices Z : Rn (P := ⟨fun r ss => ∃ h, HOk h ∧ r = .own (.lst h) ∧ ss = [.val (.scr ns)], NoE⟩) (lev P (n + 1) 14 [.val (.scr ns)]) by
    obtain ⟨r, ss, e, h, H, rfl, rfl⟩ := run_eq Z
    exact ⟨h, H, e⟩
  rw [at__law_hand, Rn.body]
  unfold m__law_hand b__law_hand_1
  simp_arith [show ∀ l h, slD (.scr ns) l h = some (.own (.lst (cutD (ns.map D.int) l h))) from fun _ _ => rfl, hc]
  rw [comp_map ns D.int (fun i => .int (if i < 0 then -i else i)) rfl (by omega) (fun i hi => by
    simp_arith []
    try simp [wipeS])]
  simp_arith [List.length_map, ml6, ml7]
  have e : ns.map (fun i => D.int (if i < 0 then -i else i)) = (ns.map fun i => if i < 0 then -i else i).map D.int := by rw [List.map_map]; rfl
  rw [e]
  exact ⟨_, ⟨_, _, _, _, _, rfl, by decide, by decide, by rw [List.length_map]; exact hn⟩, rfl⟩
theorem s5_1 {p q r s t x : D} : setD 1 x [p, q, r, s, t] = some [p, x, r, s, t] := rfl
theorem s5_2 {p q r s t x : D} : setD 2 x [p, q, r, s, t] = some [p, q, x, s, t] := rfl
theorem s5_3 {p q r s t x : D} : setD 3 x [p, q, r, s, t] = some [p, q, r, x, t] := rfl
theorem s5_4 {p q r s t x : D} : setD 4 x [p, q, r, s, t] = some [p, q, r, s, x] := rfl
theorem ml8 {i : Int} : okMul (i % 2147483399) 69621 = true := okMul_r (by decide)
theorem n10 : Int.natAbs 10 < 18446744073709551616 := by decide
theorem ml1 {i : Int} : okMul i 69621 = true := okMul_r (by decide)
theorem ml2 {i : Int} : okMul i 40692 = true := okMul_r (by decide)
theorem ml3 {i : Int} : okMul 7919 i = true := okMul_l (by decide)
theorem ml4 {i : Int} : okMul i 48271 = true := okMul_r (by decide)
theorem ml5 {i j : Int} : okMul (i % 2147483647) j = true := okMul_l (by omega)
theorem dr_fin {m v : Int} {cells : List Int} {a b c d : Int} (m0 : 0 < m) (a0 : 0 ≤ a) (b0 : 0 ≤ b) (hl : cells.length ≤ 63) : ∃ d_1, 0 ≤ d_1 ∧ d_1 < m ∧ ∃ x, HOk x ∧ v % m = d_1 ∧ [Sl.bor (.lst [.lst (cells.map D.int), .int a, .int b, .int c, .int d]), .val (.int m)] = [Sl.bor (.lst x), .val (.int m)] :=
  ⟨_, Int.emod_nonneg v (by omega), Int.emod_lt_of_pos v m0, _, ⟨cells, a, b, c, d, rfl, a0, b0, hl⟩, rfl, rfl⟩
theorem s_draw (n : Nat) (h : List D) (H : HOk h) (m : Int) (m0 : 0 < m) (m1 : m < 2 ^ 60) : ∃ d h', 0 ≤ d ∧ d < m ∧ HOk h' ∧ lev P (n + 1) 15 [.bor (.lst h), .val (.int m)] = .ok (.val (.int d)) [.bor (.lst h'), .val (.int m)] := by
  suffices Z : Rn (P := ⟨fun r ss => ∃ d h', 0 ≤ d ∧ d < m ∧ HOk h' ∧ r = .val (.int d) ∧ ss = [.bor (.lst h'), .val (.int m)], NoE⟩) (lev P (n + 1) 15 [.bor (.lst h), .val (.int m)]) by
    cases e : lev P (n + 1) 15 [.bor (.lst h), .val (.int m)] with
    | ok r ss => rw [e, Rn.ok] at Z; obtain ⟨d, h', a, b, c, rfl, rfl⟩ := Z; exact ⟨d, h', a, b, c, rfl⟩
    | exc c x ss => rw [e, Rn.exc] at Z; exact Z.elim
    | bad => rw [e] at Z; exact Rn.of_no Z
  obtain ⟨cells, a, b, c, d, rfl, a0, b0, hl⟩ := H
  rw [at__law_draw, Rn.body]
  unfold m__law_draw b__law_draw_11 b__law_draw_10 b__law_draw_9 b__law_draw_8 b__law_draw_7 b__law_draw_6 b__law_draw_5 b__law_draw_4 b__law_draw_3 b__law_draw_2 b__law_draw_1
  have dv1 : okDiv 1009 = true := okDiv_of (by decide) (by decide)
  have dv2 : okDiv 2003 = true := okDiv_of (by decide) (by decide)
  have dv3 : okDiv 16 = true := okDiv_of (by decide) (by decide)
  have dvm : okDiv m = true := okDiv_of m0 m1
  have at0 : ∀ h : a < cells.length, atI (cells.map D.int) a = some (.int (cells[a.toNat]'(by omega))) := fun h => by
    rw [atI_pos _ a0, List.getElem?_map, List.getElem?_eq_getElem (by omega)]; rfl
  have lm := Int.emod_nonneg b (by omega : m ≠ 0)
  by_cases hb : b = 0
  · by_cases ha : a < cells.length
    · simp_arith [n10, s5_1, s5_2, s5_3, s5_4, ml1, ml2, ml3, ml4, ml5, dv1, dv2, dv3, dvm, hb, ha, List.length_map, at0 ha, m0]
      refine ⟨fun h1 => ⟨fun h2 => ?_, fun h2 => ?_⟩, fun h1 => ?_⟩
      · exact dr_fin m0 (by omega) (Int.ediv_nonneg (by omega) (by omega)) hl
      · omega
      · exact dr_fin m0 (by omega) (by omega) hl
    · simp_arith [n10, s5_1, s5_2, s5_3, s5_4, ml1, ml2, ml3, ml4, ml5, dv1, dv2, dv3, dvm, hb, ha, List.length_map, m0]
      exact dr_fin m0 (by omega) (by omega) hl
  · simp_arith [n10, s5_1, s5_2, s5_3, s5_4, ml1, ml2, ml3, ml4, ml5, dv1, dv2, dv3, dvm, hb, List.length_map, show (0 : Int) < b by omega, m0]
    exact dr_fin m0 (by omega) (Int.ediv_nonneg (by omega) (by omega)) hl
theorem Rn.draw {Q : Rv → List Sl → Prop} {E : Str → Option D → List Sl → Prop} {n i : Nat} {m : Int} {h : List D} {ρ : List Sl} (hρ : ownSl ρ[i]? = true) (H : HOk h) (m0 : 0 < m) (m1 : m < 2 ^ 60)
    (K : ∀ d h', 0 ≤ d → d < m → HOk h' → Q (.val (.int d)) (ρ.set i (reO ρ[i]? h'))) : Rn (P := ⟨Q, E⟩) (callL (lev P (n + 1)) 15 i [.bor (.lst h), .val (.int m)] ρ) := by
  obtain ⟨d, h', d0, d1, H', e⟩ := s_draw n h H m m0 m1
  rw [callL_ok rfl hρ rfl e, Rn.ok]
  exact K d h' d0 d1 H'
theorem s_any (n : Nat) (h : List D) (H : HOk h) (xs : List D) (x0 : xs ≠ []) (x1 : xs.length ≤ 1000000) : ∃ x h', x ∈ xs ∧ HOk h' ∧ lev P (n + 2) 16 [.bor (.lst h), .val (.lst xs)] = .ok (.val x) [.bor (.lst h'), .val (.lst xs)] := by
  have l0 : 0 < xs.length := List.length_pos_iff.mpr x0
  suffices Z : Rn (P := ⟨fun r ss => ∃ x h', x ∈ xs ∧ HOk h' ∧ r = .val x ∧ ss = [.bor (.lst h'), .val (.lst xs)], NoE⟩) (lev P (n + 2) 16 [.bor (.lst h), .val (.lst xs)]) by
    obtain ⟨r, ss, e, x, h', a, b, rfl, rfl⟩ := run_eq Z
    exact ⟨x, h', a, b, e⟩
  rw [at__law_any, Rn.body]
  unfold m__law_any
  simp_arith []
  refine Rn.draw rfl H (by omega) (by omega) fun d h' d0 d1 H' => ?_
  have hx : xs[d.toNat]? = some (xs[d.toNat]'(by omega)) := List.getElem?_eq_getElem _
  simp_arith [atI_pos _ d0, hx]
  exact ⟨_, List.getElem_mem _, h', H', rfl, rfl⟩
theorem Rn.any {Q : Rv → List Sl → Prop} {E : Str → Option D → List Sl → Prop} {n i : Nat} {xs : List D} {h : List D} {ρ : List Sl} (hρ : ownSl ρ[i]? = true) (H : HOk h) (x0 : xs ≠ []) (x1 : xs.length ≤ 1000000)
    (K : ∀ x h', x ∈ xs → HOk h' → Q (.val x) (ρ.set i (reO ρ[i]? h'))) : Rn (P := ⟨Q, E⟩) (callL (lev P (n + 2)) 16 i [.bor (.lst h), .val (.lst xs)] ρ) := by
  obtain ⟨d, h', d0, H', e⟩ := s_any n h H xs x0 x1
  rw [callL_ok rfl hρ rfl e, Rn.ok]
  exact K d h' d0 H'

end K78
end

section
set_option Elab.async false
set_option linter.all false
set_option maxRecDepth 100000
set_option maxHeartbeats 4000000
namespace K78
open PySem Pyd L2 Pyd.M Pyd.Enc
local macro_rules | `(tactic| simp_arith [$as,*]) => `(tactic| simp only [Pyd.Rn.ok, Pyd.Rn.exc, Pyd.Rn.no, Pyd.Rn.bnd, Pyd.Rn.guard, Pyd.Rn.opt_some, Pyd.Rn.seq, Pyd.Rn.ifM, Pyd.Rn.forM, Pyd.Rn.loopNil, Pyd.Rn.oneC, Pyd.varM_ap, Pyd.varO_val, Pyd.varO_own, Pyd.varO_bor, Pyd.look_val, Pyd.look_own, Pyd.look_var, Pyd.lookO_val, Pyd.lookO_own, Pyd.lookO_bor, Pyd.frz_val, Pyd.frz_own, Pyd.frz_var, Pyd.frzO_val, Pyd.frzO_own, Pyd.toSl_val, Pyd.toSl_own, Pyd.argOf0_val, Pyd.argOf0_own, Pyd.argOf1_val, Pyd.argOf1_own, Pyd.argOf1_var, Pyd.borO_own, Pyd.borO_bor, Pyd.borO_val, Pyd.storeAt_ap, Pyd.stoO_emp, Pyd.stoO_val, Pyd.stoO_own, Pyd.data_lst, Pyd.Rn.ret, Pyd.Rn.toSl_var, Pyd.Rn.argOf0_var, Pyd.Rn.frzs_nil, Pyd.Rn.frzs_cons, Pyd.Rn.looks_nil, Pyd.Rn.looks_cons, Pyd.Rn.toSls_nil, Pyd.Rn.toSls_cons, Pyd.Rn.argsM_nil, Pyd.Rn.argsM_cons, Pyd.Rn.tupM, Pyd.Rn.lstM, Pyd.Rn.lift1, Pyd.Rn.lift2, Pyd.Rn.binM, Pyd.Rn.unM, Pyd.Rn.andM1, Pyd.Rn.andM, Pyd.Rn.orM1, Pyd.Rn.orM, Pyd.Rn.cmp1M, Pyd.Rn.cmp2M, Pyd.Rn.ixM, Pyd.Rn.ifE, Pyd.Rn.partM_none, Pyd.Rn.partM_some, Pyd.Rn.slM, Pyd.Rn.compE, Pyd.Rn.callF, Pyd.Rn.argS_nil, Pyd.Rn.argS_cons, Pyd.Rn.callK0, Pyd.gotO_val, Pyd.gotO_own, Pyd.gotO_exc, Pyd.Rn.biM, Pyd.Rn.tyM, Pyd.Rn.isiM, Pyd.Rn.lstRg, Pyd.Rn.tupRg, Pyd.Rn.chM, Pyd.chVar_ap, Pyd.Rn.chO_own, Pyd.Rn.chO_bor, Pyd.Rn.mtM, Pyd.Rn.lamM, Pyd.Rn.andT1, Pyd.Rn.andT, Pyd.Rn.orT1, Pyd.Rn.orT, Pyd.Rn.notT, Pyd.Rn.rvT, Pyd.Rn.truT, Pyd.Rn.rgM, Pyd.Rn.rg1, Pyd.Rn.rg2, Pyd.Rn.itE, Pyd.Rn.enE, Pyd.Rn.zpE, Pyd.Rn.asgs_nil, Pyd.Rn.asgs_cons, Pyd.Rn.tgT, Pyd.putVar_ap, Pyd.Rn.putO_own, Pyd.Rn.putO_bor, Pyd.Rn.tgS, Pyd.Rn.asgE, Pyd.Rn.parE, Pyd.Rn.exprM, Pyd.Rn.retM, Pyd.raisM_ap, Pyd.augM_ap, Pyd.Rn.augO, Pyd.bin_add, Pyd.bin_addT, Pyd.bin_addL, Pyd.bin_sub, Pyd.bin_mul, Pyd.bin_mulT, Pyd.bin_mulL, Pyd.bin_div, Pyd.bin_mod, Pyd.bin_pow, Pyd.aug_add, Pyd.aug_sub, Pyd.un_neg, Pyd.un_not, Pyd.cmp_eq, Pyd.cmp_ne, Pyd.cmp_lt, Pyd.cmp_le, Pyd.cmp_gt, Pyd.cmp_ge, Pyd.cmp_is, Pyd.cmp_isnot, Pyd.cmp_in, Pyd.cmp_notin, Pyd.is_bl, Pyd.is_nn, Pyd.is_in, Pyd.is_tn, Pyd.tru_bl, Pyd.tru_int, Pyd.tru_tup, Pyd.tru_lst, Pyd.ix_tup, Pyd.ix_lst, Pyd.seq_tup, Pyd.seq_lst, Pyd.bi_len_t, Pyd.bi_len_l, Pyd.bi_all, Pyd.bi_any, Pyd.bi_sum, Pyd.bi_max, Pyd.bi_min, Pyd.bi_max2, Pyd.bi_min2, Pyd.bi_abs, Pyd.ty_int, Pyd.ty_intb, Pyd.ty_bool, Pyd.ty_booli, Pyd.ty_tt, Pyd.ty_tl, Pyd.ty_lt, Pyd.ty_ll, Pyd.isi_int, Pyd.isi_inb, Pyd.isi_tt, Pyd.isi_lt, Pyd.isi_it, Pyd.isi_nt, Pyd.isi_st, Pyd.ch_app, Pyd.ch_ext, Pyd.ch_pop, Pyd.ch_pop0, Pyd.mto_ct, Pyd.mto_cl, Pyd.mto_il, Pyd.alk_t, Pyd.alk_l, Pyd.mt_ct, Pyd.mt_cl, Pyd.mt_il, Pyd.own_own, Pyd.own_bor, Pyd.plain_emp, Pyd.plain_val, Pyd.sl_t, Pyd.sl_l, Pyd.ret_nx, Pyd.ret_val, Pyd.ret_own, Pyd.so_nil, Pyd.so_val, Pyd.so_bor, Pyd.ret_var, Pyd.rtO_own, Pyd.rtO_val, Pyd.Rn.chk, Pyd.Rn.optMap, Pyd.Rn.optBind, List.getElem?_cons_zero, List.getElem?_cons_succ, List.set_cons_zero, List.set_cons_succ, Option.map_some, Option.bind_some, List.length_cons, List.length_nil, List.map_cons, List.map_nil, List.all_cons, List.all_nil, Pyd.wipeS, List.foldr_cons, List.foldr_nil, Bool.and_self, Bool.and_true, Bool.true_and, decide_true, forall_const, true_implies, reduceCtorEq, false_implies, and_true, true_and, Option.some.injEq, exists_eq_left, exists_eq_left', Pyd.Rv.val.injEq, Pyd.D.bl.injEq, Pyd.D.int.injEq, exists_and_left, Nat.reduceAdd, Bool.not_true, Bool.not_false, Bool.not_eq_true', Pyd.blsD, Pyd.enc_int, Pyd.enc_nat, Pyd.enc_bool, Pyd.enc_list, Pyd.enc_pair, Pyd.atI_nat, Pyd.atI_0, Pyd.atI_1, Pyd.atI_2, Pyd.atI_3, Pyd.atI_4, Pyd.rgD_nat, Pyd.eqD_int, Pyd.eqD_bl, Pyd.eqD_non, Pyd.eqD_intN, Pyd.eqD_Nint, Pyd.intsD_int, Pyd.intsD_map, Pyd.blsD_map, Pyd.inD_nat_t, Pyd.inD_nat_l, Pyd.inD_int_t, Pyd.inD_int_l, Pyd.cntD_nat, Pyd.cntD_int, List.getElem?_map, Option.map_map, Pyd.ok0, Pyd.ok1, Pyd.ok2, Pyd.ok3, Pyd.ok4, Pyd.ok5, Pyd.ok6, Pyd.ok7, Pyd.ok8, Pyd.ok9, Pyd.ok10, Pyd.ok11, Pyd.ok12, Pyd.ok13, Pyd.ok14, Pyd.ok15, Pyd.ok16, Pyd.ok17, Pyd.ok18, Pyd.ok19, decide_eq_true_eq, decide_eq_false_iff_not, Int.not_lt, Int.not_le, Int.reduceLT, Int.reduceLE, Int.reduceToNat, Int.reducePow, Nat.reducePow, Nat.reduceLT, Nat.reduceLeDiff, Bool.and_eq_true, Int.reduceEq, Nat.reduceEqDiff, Int.reduceNeg, Int.reduceAdd, Int.reduceSub, Int.reduceMul, Int.reduceNe, Int.lt_irrefl, decide_false, Bool.false_and, Bool.and_false, ne_eq, not_true_eq_false, not_false_eq_true, Pyd.Rn.callK1, Pyd.reO_own, Pyd.reO_bor, List.nil_append, List.cons_append, List.append_nil, Pyd.isD_opt, Pyd.isD_optI, Pyd.eqD_optN, Pyd.eqD_optI, Pyd.isi_strI, Pyd.isi_blI, Pyd.isi_blB, Pyd.isi_nnI, Pyd.isi_ttI, Pyd.isi_llI, Pyd.isi_llL, Pyd.isi_blT, Pyd.eqD_tI, Pyd.eqD_tN, Pyd.eqD_lI, Pyd.eqD_lN, Pyd.zip_enc, Pyd.intsD_enc, Pyd.intsD_encN, Pyd.intsD_cons, Pyd.intsD_nil, Pyd.blsD_enc, Pyd.cN0, Pyd.cN1, Pyd.cN2, Pyd.cN3, Pyd.cN4, Pyd.cN5, Pyd.cN6, Pyd.cN7, Pyd.cN8, Pyd.cN9, Pyd.cN10, Pyd.cN11, Pyd.minO_some, Pyd.cmp_ltT, Pyd.ltT_some, Pyd.Rn.rg3, Pyd.Rn.rgM3, Pyd.Rn.revE, Pyd.rev_t, Pyd.rev_l, Pyd.bi_repr, Pyd.bi_sumT, $as,*])

theorem s_is_integer (n : Nat) (i : Int) : lev P (n + 1) 0 [.val (.int i)] = .ok (.val (.bl true)) [.val (.int i)] := by kernel_rfl
theorem s_is_within (n : Nat) (i a b : Int) : lev P (n + 2) 1 [.val (.int i), .val (.int a), .val (.int b)] = .ok (.val (.bl (decide (a ≤ i) && decide (i ≤ b)))) [.val (.int i), .val (.int a), .val (.int b)] := by
  rw [at_is_within]
  apply body_ok
  unfold m_is_within
  simp_arith [s_is_integer]
  by_cases h : a ≤ i <;> simp [h] <;> omega
theorem s_is_sized (n : Nat) (ds : List D) (a b : Int) : lev P (n + 1) 2 [.val (.tup ds), .val (.int a), .val (.int b)] = .ok (.val (.bl (decide (a ≤ ds.length) && decide ((ds.length : Int) ≤ b)))) [.val (.tup ds), .val (.int a), .val (.int b)] := by
  rw [at_is_sized]
  apply body_ok
  unfold m_is_sized
  simp_arith [s_is_integer]
  by_cases h : a ≤ ds.length <;> simp [h] <;> omega
theorem s_sized_no (n : Nat) (x : D) (a b : Int) (h : isiD x "tuple" = some false) : lev P (n + 1) 2 [.val x, .val (.int a), .val (.int b)] = .ok (.val (.bl false)) [.val x, .val (.int a), .val (.int b)] := by
  rw [at_is_sized]
  apply body_ok
  unfold m_is_sized
  simp_arith [h]
abbrev fr (p : Int × Int) : D := .tup [.int p.1, .int p.2]
theorem gcd_step {a b : Int} (hb : 0 < b) : Int.gcd b (a % b) = Int.gcd a b := by
  have h : Int.gcd b (a % b + b * (a / b)) = Int.gcd b (a % b) := Int.gcd_add_mul_left_right ..
  rw [Int.emod_add_mul_ediv] at h
  rw [← h, Int.gcd_comm]
theorem s_common (n : Nat) (a b : Int) (h0 : 0 ≤ b) (h1 : b < 16000000) : lev P (n + 1) 3 [.val (.int a), .val (.int b)] = .ok (.val (.int (Int.gcd a b : Nat))) [.val (.int a), .val (.int b)] := by
  rw [at_common]
  apply body_ok
  unfold m_common b_common_2 b_common_1
  simp_arith []
  refine loopW_run (fun s : Int × Int => [.val (.int s.1), .val (.int s.2)]) (fun s => 0 ≤ s.2 ∧ Int.gcd s.1 s.2 = Int.gcd a b) (fun s => s.2.toNat) ?_ 16777216 (a, b) ⟨h0, rfl⟩ (by show b.toNat < _; omega)
  rintro ⟨x, y⟩ ⟨hy, hg⟩
  dsimp only at hy hg
  by_cases hz : y = 0
  · subst hz
    simp_arith []
    rw [← hg, Int.gcd_zero_right]
    congr 1
    split <;> omega
  · have hp : 0 < y := by omega
    simp_arith [hz, hp]
    exact ⟨(y, x % y), rfl, ⟨Int.emod_nonneg _ hz, by rw [gcd_step hp]; exact hg⟩, by have := Int.emod_lt_of_pos x hp; have := Int.emod_nonneg x hz; show (x % y).toNat < y.toNat; omega⟩
/-- in lowest terms -/
def low (a b : Int) : Int × Int := (a / (Int.gcd a b : Nat), b / (Int.gcd a b : Nat))
theorem gcd_pos' {a b : Int} (hb : 0 < b) : 0 < Int.gcd a b := Int.gcd_pos_iff.mpr (.inr (by omega))
theorem gcd_le' {a b : Int} (hb : 0 < b) : ((Int.gcd a b : Nat) : Int) ≤ b := by
  have h := Int.gcd_dvd_right a b
  exact Int.le_of_dvd hb h
theorem s_share (n : Nat) (a b : Int) (h0 : 0 < b) (h1 : b < 16000000) : lev P (n + 2) 4 [.val (.int a), .val (.int b)] = .ok (.val (fr (low a b))) [.val (.int a), .val (.int b)] := by
  have g0 := gcd_pos' (a := a) h0
  have g1 := gcd_le' (a := a) h0
  rw [at_share]
  apply body_ok
  unfold m_share b_share_2 b_share_1
  simp_arith [s_common _ a b (by omega) h1, h0, okDiv_of (show (0 : Int) < (Int.gcd a b : Nat) by omega) (by omega)]
  rfl
end K78
end

section
set_option Elab.async false
set_option linter.all false
set_option maxRecDepth 100000
set_option maxHeartbeats 4000000
namespace K78
open PySem Pyd L2 Pyd.M Pyd.Enc
local macro_rules | `(tactic| simp_arith [$as,*]) => `(tactic| simp only [Pyd.Rn.ok, Pyd.Rn.exc, Pyd.Rn.no, Pyd.Rn.bnd, Pyd.Rn.guard, Pyd.Rn.opt_some, Pyd.Rn.seq, Pyd.Rn.ifM, Pyd.Rn.forM, Pyd.Rn.loopNil, Pyd.Rn.oneC, Pyd.varM_ap, Pyd.varO_val, Pyd.varO_own, Pyd.varO_bor, Pyd.look_val, Pyd.look_own, Pyd.look_var, Pyd.lookO_val, Pyd.lookO_own, Pyd.lookO_bor, Pyd.frz_val, Pyd.frz_own, Pyd.frz_var, Pyd.frzO_val, Pyd.frzO_own, Pyd.toSl_val, Pyd.toSl_own, Pyd.argOf0_val, Pyd.argOf0_own, Pyd.argOf1_val, Pyd.argOf1_own, Pyd.argOf1_var, Pyd.borO_own, Pyd.borO_bor, Pyd.borO_val, Pyd.storeAt_ap, Pyd.stoO_emp, Pyd.stoO_val, Pyd.stoO_own, Pyd.data_lst, Pyd.Rn.ret, Pyd.Rn.toSl_var, Pyd.Rn.argOf0_var, Pyd.Rn.frzs_nil, Pyd.Rn.frzs_cons, Pyd.Rn.looks_nil, Pyd.Rn.looks_cons, Pyd.Rn.toSls_nil, Pyd.Rn.toSls_cons, Pyd.Rn.argsM_nil, Pyd.Rn.argsM_cons, Pyd.Rn.tupM, Pyd.Rn.lstM, Pyd.Rn.lift1, Pyd.Rn.lift2, Pyd.Rn.binM, Pyd.Rn.unM, Pyd.Rn.andM1, Pyd.Rn.andM, Pyd.Rn.orM1, Pyd.Rn.orM, Pyd.Rn.cmp1M, Pyd.Rn.cmp2M, Pyd.Rn.ixM, Pyd.Rn.ifE, Pyd.Rn.partM_none, Pyd.Rn.partM_some, Pyd.Rn.slM, Pyd.Rn.compE, Pyd.Rn.callF, Pyd.Rn.argS_nil, Pyd.Rn.argS_cons, Pyd.Rn.callK0, Pyd.gotO_val, Pyd.gotO_own, Pyd.gotO_exc, Pyd.Rn.biM, Pyd.Rn.tyM, Pyd.Rn.isiM, Pyd.Rn.lstRg, Pyd.Rn.tupRg, Pyd.Rn.chM, Pyd.chVar_ap, Pyd.Rn.chO_own, Pyd.Rn.chO_bor, Pyd.Rn.mtM, Pyd.Rn.lamM, Pyd.Rn.andT1, Pyd.Rn.andT, Pyd.Rn.orT1, Pyd.Rn.orT, Pyd.Rn.notT, Pyd.Rn.rvT, Pyd.Rn.truT, Pyd.Rn.rgM, Pyd.Rn.rg1, Pyd.Rn.rg2, Pyd.Rn.itE, Pyd.Rn.enE, Pyd.Rn.zpE, Pyd.Rn.asgs_nil, Pyd.Rn.asgs_cons, Pyd.Rn.tgT, Pyd.putVar_ap, Pyd.Rn.putO_own, Pyd.Rn.putO_bor, Pyd.Rn.tgS, Pyd.Rn.asgE, Pyd.Rn.parE, Pyd.Rn.exprM, Pyd.Rn.retM, Pyd.raisM_ap, Pyd.augM_ap, Pyd.Rn.augO, Pyd.bin_add, Pyd.bin_addT, Pyd.bin_addL, Pyd.bin_sub, Pyd.bin_mul, Pyd.bin_mulT, Pyd.bin_mulL, Pyd.bin_div, Pyd.bin_mod, Pyd.bin_pow, Pyd.aug_add, Pyd.aug_sub, Pyd.un_neg, Pyd.un_not, Pyd.cmp_eq, Pyd.cmp_ne, Pyd.cmp_lt, Pyd.cmp_le, Pyd.cmp_gt, Pyd.cmp_ge, Pyd.cmp_is, Pyd.cmp_isnot, Pyd.cmp_in, Pyd.cmp_notin, Pyd.is_bl, Pyd.is_nn, Pyd.is_in, Pyd.is_tn, Pyd.tru_bl, Pyd.tru_int, Pyd.tru_tup, Pyd.tru_lst, Pyd.ix_tup, Pyd.ix_lst, Pyd.seq_tup, Pyd.seq_lst, Pyd.bi_len_t, Pyd.bi_len_l, Pyd.bi_all, Pyd.bi_any, Pyd.bi_sum, Pyd.bi_max, Pyd.bi_min, Pyd.bi_max2, Pyd.bi_min2, Pyd.bi_abs, Pyd.ty_int, Pyd.ty_intb, Pyd.ty_bool, Pyd.ty_booli, Pyd.ty_tt, Pyd.ty_tl, Pyd.ty_lt, Pyd.ty_ll, Pyd.isi_int, Pyd.isi_inb, Pyd.isi_tt, Pyd.isi_lt, Pyd.isi_it, Pyd.isi_nt, Pyd.isi_st, Pyd.ch_app, Pyd.ch_ext, Pyd.ch_pop, Pyd.ch_pop0, Pyd.mto_ct, Pyd.mto_cl, Pyd.mto_il, Pyd.alk_t, Pyd.alk_l, Pyd.mt_ct, Pyd.mt_cl, Pyd.mt_il, Pyd.own_own, Pyd.own_bor, Pyd.plain_emp, Pyd.plain_val, Pyd.sl_t, Pyd.sl_l, Pyd.ret_nx, Pyd.ret_val, Pyd.ret_own, Pyd.so_nil, Pyd.so_val, Pyd.so_bor, Pyd.ret_var, Pyd.rtO_own, Pyd.rtO_val, Pyd.Rn.chk, Pyd.Rn.optMap, Pyd.Rn.optBind, List.getElem?_cons_zero, List.getElem?_cons_succ, List.set_cons_zero, List.set_cons_succ, Option.map_some, Option.bind_some, List.length_cons, List.length_nil, List.map_cons, List.map_nil, List.all_cons, List.all_nil, Pyd.wipeS, List.foldr_cons, List.foldr_nil, Bool.and_self, Bool.and_true, Bool.true_and, decide_true, forall_const, true_implies, reduceCtorEq, false_implies, and_true, true_and, Option.some.injEq, exists_eq_left, exists_eq_left', Pyd.Rv.val.injEq, Pyd.D.bl.injEq, Pyd.D.int.injEq, exists_and_left, Nat.reduceAdd, Bool.not_true, Bool.not_false, Bool.not_eq_true', Pyd.blsD, Pyd.enc_int, Pyd.enc_nat, Pyd.enc_bool, Pyd.enc_list, Pyd.enc_pair, Pyd.atI_nat, Pyd.atI_0, Pyd.atI_1, Pyd.atI_2, Pyd.atI_3, Pyd.atI_4, Pyd.rgD_nat, Pyd.eqD_int, Pyd.eqD_bl, Pyd.eqD_non, Pyd.eqD_intN, Pyd.eqD_Nint, Pyd.intsD_int, Pyd.intsD_map, Pyd.blsD_map, Pyd.inD_nat_t, Pyd.inD_nat_l, Pyd.inD_int_t, Pyd.inD_int_l, Pyd.cntD_nat, Pyd.cntD_int, List.getElem?_map, Option.map_map, Pyd.ok0, Pyd.ok1, Pyd.ok2, Pyd.ok3, Pyd.ok4, Pyd.ok5, Pyd.ok6, Pyd.ok7, Pyd.ok8, Pyd.ok9, Pyd.ok10, Pyd.ok11, Pyd.ok12, Pyd.ok13, Pyd.ok14, Pyd.ok15, Pyd.ok16, Pyd.ok17, Pyd.ok18, Pyd.ok19, decide_eq_true_eq, decide_eq_false_iff_not, Int.not_lt, Int.not_le, Int.reduceLT, Int.reduceLE, Int.reduceToNat, Int.reducePow, Nat.reducePow, Nat.reduceLT, Nat.reduceLeDiff, Bool.and_eq_true, Int.reduceEq, Nat.reduceEqDiff, Int.reduceNeg, Int.reduceAdd, Int.reduceSub, Int.reduceMul, Int.reduceNe, Int.lt_irrefl, decide_false, Bool.false_and, Bool.and_false, ne_eq, not_true_eq_false, not_false_eq_true, Pyd.Rn.callK1, Pyd.reO_own, Pyd.reO_bor, List.nil_append, List.cons_append, List.append_nil, Pyd.isD_opt, Pyd.isD_optI, Pyd.eqD_optN, Pyd.eqD_optI, Pyd.isi_strI, Pyd.isi_blI, Pyd.isi_blB, Pyd.isi_nnI, Pyd.isi_ttI, Pyd.isi_llI, Pyd.isi_llL, Pyd.isi_blT, Pyd.eqD_tI, Pyd.eqD_tN, Pyd.eqD_lI, Pyd.eqD_lN, Pyd.zip_enc, Pyd.intsD_enc, Pyd.intsD_encN, Pyd.intsD_cons, Pyd.intsD_nil, Pyd.blsD_enc, Pyd.cN0, Pyd.cN1, Pyd.cN2, Pyd.cN3, Pyd.cN4, Pyd.cN5, Pyd.cN6, Pyd.cN7, Pyd.cN8, Pyd.cN9, Pyd.cN10, Pyd.cN11, Pyd.minO_some, Pyd.cmp_ltT, Pyd.ltT_some, Pyd.Rn.rg3, Pyd.Rn.rgM3, Pyd.Rn.revE, Pyd.rev_t, Pyd.rev_l, Pyd.bi_repr, Pyd.bi_sumT, $as,*])

theorem low_pos {a b : Int} (hb : 0 < b) : 0 < (low a b).2 ∧ (low a b).2 ≤ b := by
  have h0 := gcd_pos' (a := a) hb
  have h1 := gcd_le' (a := a) hb
  have hd := Int.gcd_dvd_right a b
  show 0 < b / ((Int.gcd a b : Nat) : Int) ∧ b / ((Int.gcd a b : Nat) : Int) ≤ b
  refine ⟨Int.ediv_pos_of_pos_of_dvd hb (by omega) hd, ?_⟩
  exact Int.ediv_le_self _ (by omega)
theorem low_cross {a b : Int} (hb : 0 < b) : (low a b).1 * b = a * (low a b).2 := by
  have h0 := gcd_pos' (a := a) hb
  obtain ⟨x, hx⟩ := Int.gcd_dvd_left a b
  obtain ⟨y, hy⟩ := Int.gcd_dvd_right a b
  have hg : ((Int.gcd a b : Nat) : Int) ≠ 0 := by omega
  have e1 : (low a b).1 = x := by
    show a / ((Int.gcd a b : Nat) : Int) = x
    exact Int.ediv_eq_of_eq_mul_right hg hx
  have e2 : (low a b).2 = y := by
    show b / ((Int.gcd a b : Nat) : Int) = y
    exact Int.ediv_eq_of_eq_mul_right hg hy
  rw [e1, e2]
  generalize ((Int.gcd a b : Nat) : Int) = g at hx hy
  rw [hx, hy, Int.mul_comm g x, Int.mul_assoc]
theorem low_gcd {a b : Int} (hb : 0 < b) : Int.gcd (low a b).1 (low a b).2 = 1 := Int.gcd_ediv_gcd_ediv_gcd (gcd_pos' hb)
theorem dvd_cop {k m n : Int} (h : k ∣ m * n) (g : Int.gcd k m = 1) : k ∣ n := by
  have h1 : k.natAbs ∣ m.natAbs * n.natAbs := by rw [← Int.natAbs_mul]; exact Int.natAbs_dvd_natAbs.mpr h
  exact Int.natAbs_dvd_natAbs.mp (Nat.Coprime.dvd_of_dvd_mul_left g h1)
theorem cop_eq {p q : Int × Int} (hp : Int.gcd p.1 p.2 = 1) (hq : Int.gcd q.1 q.2 = 1) (p0 : 0 < p.2) (q0 : 0 < q.2) (h : p.1 * q.2 = q.1 * p.2) : p = q := by
  obtain ⟨a, b⟩ := p
  obtain ⟨c, d⟩ := q
  dsimp only at hp hq p0 q0 h
  have d1 : b ∣ d := by
    have : b ∣ a * d := ⟨c, by rw [h, Int.mul_comm]⟩
    exact dvd_cop this (by rw [Int.gcd_comm]; exact hp)
  have d2 : d ∣ b := by
    have : d ∣ c * b := ⟨a, by rw [← h, Int.mul_comm]⟩
    exact dvd_cop this (by rw [Int.gcd_comm]; exact hq)
  have e : b = d := Int.le_antisymm (Int.le_of_dvd q0 d1) (Int.le_of_dvd p0 d2)
  subst e
  have : a = c := Int.eq_of_mul_eq_mul_right (by omega) h
  rw [this]
theorem low_eq {a b : Int} {q : Int × Int} (hb : 0 < b) (hq : Int.gcd q.1 q.2 = 1) (q0 : 0 < q.2) (h : a * q.2 = q.1 * b) : low a b = q := by
  refine cop_eq (low_gcd hb) hq (low_pos hb).1 q0 ?_
  have h1 := low_cross (a := a) hb
  have e : (low a b).1 * q.2 * b = q.1 * (low a b).2 * b := by
    calc (low a b).1 * q.2 * b = (low a b).1 * b * q.2 := by rw [Int.mul_assoc, Int.mul_comm q.2 b, ← Int.mul_assoc]
      _ = a * (low a b).2 * q.2 := by rw [h1]
      _ = a * q.2 * (low a b).2 := by rw [Int.mul_assoc, Int.mul_comm (low a b).2, ← Int.mul_assoc]
      _ = q.1 * b * (low a b).2 := by rw [h]
      _ = q.1 * (low a b).2 * b := by rw [Int.mul_assoc, Int.mul_comm b, ← Int.mul_assoc]
  exact Int.eq_of_mul_eq_mul_right (by omega) e
theorem low_lt {a b c d : Int} (hb : 0 < b) (hd : 0 < d) : (c * (low a b).2 < (low a b).1 * d) = (c * b < a * d) := by
  have h1 := low_cross (a := a) hb
  obtain ⟨p1, p2⟩ := low_pos (a := a) hb
  apply propext
  have e1 : (low a b).1 * d * b = a * d * (low a b).2 := by
    rw [Int.mul_assoc, Int.mul_comm d b, ← Int.mul_assoc, h1, Int.mul_assoc, Int.mul_comm (low a b).2, ← Int.mul_assoc]
  have e2 : c * (low a b).2 * b = c * b * (low a b).2 := by
    rw [Int.mul_assoc, Int.mul_comm (low a b).2, ← Int.mul_assoc]
  constructor
  · intro h
    have h2 := Int.mul_lt_mul_of_pos_right h hb
    rw [e1, e2] at h2
    exact Int.lt_of_mul_lt_mul_right h2 (by omega)
  · intro h
    have h2 := Int.mul_lt_mul_of_pos_right h p1
    rw [← e1, ← e2] at h2
    exact Int.lt_of_mul_lt_mul_right h2 (by omega)
theorem low_gt {a b c d : Int} (hb : 0 < b) (hd : 0 < d) : ((low a b).1 * d < c * (low a b).2) = (a * d < c * b) := by
  have h1 := low_cross (a := a) hb
  obtain ⟨p1, p2⟩ := low_pos (a := a) hb
  apply propext
  have e1 : (low a b).1 * d * b = a * d * (low a b).2 := by
    rw [Int.mul_assoc, Int.mul_comm d b, ← Int.mul_assoc, h1, Int.mul_assoc, Int.mul_comm (low a b).2, ← Int.mul_assoc]
  have e2 : c * (low a b).2 * b = c * b * (low a b).2 := by
    rw [Int.mul_assoc, Int.mul_comm (low a b).2, ← Int.mul_assoc]
  constructor
  · intro h
    have h2 := Int.mul_lt_mul_of_pos_right h hb
    rw [e1, e2] at h2
    exact Int.lt_of_mul_lt_mul_right h2 (by omega)
  · intro h
    have h2 := Int.mul_lt_mul_of_pos_right h p1
    rw [← e1, ← e2] at h2
    exact Int.lt_of_mul_lt_mul_right h2 (by omega)
def lss (p q : Int × Int) : Bool := decide (p.1 * q.2 < q.1 * p.2)
theorem low_abs {x b : Int} (hb : 0 < b) : (low x b).1.natAbs ≤ x.natAbs := by
  unfold low
  have h0 := gcd_pos' (a := x) hb
  show (x / ((Int.gcd x b : Nat) : Int)).natAbs ≤ _
  have hd := Int.gcd_dvd_left x b
  rw [Int.natAbs_ediv_of_dvd hd]
  exact Nat.div_le_self _ _

end K78
end

section
set_option Elab.async false
set_option linter.all false
set_option maxRecDepth 100000
set_option maxHeartbeats 4000000
namespace K78
open PySem Pyd L2 Pyd.M Pyd.Enc
local macro_rules | `(tactic| simp_arith [$as,*]) => `(tactic| simp only [Pyd.Rn.ok, Pyd.Rn.exc, Pyd.Rn.no, Pyd.Rn.bnd, Pyd.Rn.guard, Pyd.Rn.opt_some, Pyd.Rn.seq, Pyd.Rn.ifM, Pyd.Rn.forM, Pyd.Rn.loopNil, Pyd.Rn.oneC, Pyd.varM_ap, Pyd.varO_val, Pyd.varO_own, Pyd.varO_bor, Pyd.look_val, Pyd.look_own, Pyd.look_var, Pyd.lookO_val, Pyd.lookO_own, Pyd.lookO_bor, Pyd.frz_val, Pyd.frz_own, Pyd.frz_var, Pyd.frzO_val, Pyd.frzO_own, Pyd.toSl_val, Pyd.toSl_own, Pyd.argOf0_val, Pyd.argOf0_own, Pyd.argOf1_val, Pyd.argOf1_own, Pyd.argOf1_var, Pyd.borO_own, Pyd.borO_bor, Pyd.borO_val, Pyd.storeAt_ap, Pyd.stoO_emp, Pyd.stoO_val, Pyd.stoO_own, Pyd.data_lst, Pyd.Rn.ret, Pyd.Rn.toSl_var, Pyd.Rn.argOf0_var, Pyd.Rn.frzs_nil, Pyd.Rn.frzs_cons, Pyd.Rn.looks_nil, Pyd.Rn.looks_cons, Pyd.Rn.toSls_nil, Pyd.Rn.toSls_cons, Pyd.Rn.argsM_nil, Pyd.Rn.argsM_cons, Pyd.Rn.tupM, Pyd.Rn.lstM, Pyd.Rn.lift1, Pyd.Rn.lift2, Pyd.Rn.binM, Pyd.Rn.unM, Pyd.Rn.andM1, Pyd.Rn.andM, Pyd.Rn.orM1, Pyd.Rn.orM, Pyd.Rn.cmp1M, Pyd.Rn.cmp2M, Pyd.Rn.ixM, Pyd.Rn.ifE, Pyd.Rn.partM_none, Pyd.Rn.partM_some, Pyd.Rn.slM, Pyd.Rn.compE, Pyd.Rn.callF, Pyd.Rn.argS_nil, Pyd.Rn.argS_cons, Pyd.Rn.callK0, Pyd.gotO_val, Pyd.gotO_own, Pyd.gotO_exc, Pyd.Rn.biM, Pyd.Rn.tyM, Pyd.Rn.isiM, Pyd.Rn.lstRg, Pyd.Rn.tupRg, Pyd.Rn.chM, Pyd.chVar_ap, Pyd.Rn.chO_own, Pyd.Rn.chO_bor, Pyd.Rn.mtM, Pyd.Rn.lamM, Pyd.Rn.andT1, Pyd.Rn.andT, Pyd.Rn.orT1, Pyd.Rn.orT, Pyd.Rn.notT, Pyd.Rn.rvT, Pyd.Rn.truT, Pyd.Rn.rgM, Pyd.Rn.rg1, Pyd.Rn.rg2, Pyd.Rn.itE, Pyd.Rn.enE, Pyd.Rn.zpE, Pyd.Rn.asgs_nil, Pyd.Rn.asgs_cons, Pyd.Rn.tgT, Pyd.putVar_ap, Pyd.Rn.putO_own, Pyd.Rn.putO_bor, Pyd.Rn.tgS, Pyd.Rn.asgE, Pyd.Rn.parE, Pyd.Rn.exprM, Pyd.Rn.retM, Pyd.raisM_ap, Pyd.augM_ap, Pyd.Rn.augO, Pyd.bin_add, Pyd.bin_addT, Pyd.bin_addL, Pyd.bin_sub, Pyd.bin_mul, Pyd.bin_mulT, Pyd.bin_mulL, Pyd.bin_div, Pyd.bin_mod, Pyd.bin_pow, Pyd.aug_add, Pyd.aug_sub, Pyd.un_neg, Pyd.un_not, Pyd.cmp_eq, Pyd.cmp_ne, Pyd.cmp_lt, Pyd.cmp_le, Pyd.cmp_gt, Pyd.cmp_ge, Pyd.cmp_is, Pyd.cmp_isnot, Pyd.cmp_in, Pyd.cmp_notin, Pyd.is_bl, Pyd.is_nn, Pyd.is_in, Pyd.is_tn, Pyd.tru_bl, Pyd.tru_int, Pyd.tru_tup, Pyd.tru_lst, Pyd.ix_tup, Pyd.ix_lst, Pyd.seq_tup, Pyd.seq_lst, Pyd.bi_len_t, Pyd.bi_len_l, Pyd.bi_all, Pyd.bi_any, Pyd.bi_sum, Pyd.bi_max, Pyd.bi_min, Pyd.bi_max2, Pyd.bi_min2, Pyd.bi_abs, Pyd.ty_int, Pyd.ty_intb, Pyd.ty_bool, Pyd.ty_booli, Pyd.ty_tt, Pyd.ty_tl, Pyd.ty_lt, Pyd.ty_ll, Pyd.isi_int, Pyd.isi_inb, Pyd.isi_tt, Pyd.isi_lt, Pyd.isi_it, Pyd.isi_nt, Pyd.isi_st, Pyd.ch_app, Pyd.ch_ext, Pyd.ch_pop, Pyd.ch_pop0, Pyd.mto_ct, Pyd.mto_cl, Pyd.mto_il, Pyd.alk_t, Pyd.alk_l, Pyd.mt_ct, Pyd.mt_cl, Pyd.mt_il, Pyd.own_own, Pyd.own_bor, Pyd.plain_emp, Pyd.plain_val, Pyd.sl_t, Pyd.sl_l, Pyd.ret_nx, Pyd.ret_val, Pyd.ret_own, Pyd.so_nil, Pyd.so_val, Pyd.so_bor, Pyd.ret_var, Pyd.rtO_own, Pyd.rtO_val, Pyd.Rn.chk, Pyd.Rn.optMap, Pyd.Rn.optBind, List.getElem?_cons_zero, List.getElem?_cons_succ, List.set_cons_zero, List.set_cons_succ, Option.map_some, Option.bind_some, List.length_cons, List.length_nil, List.map_cons, List.map_nil, List.all_cons, List.all_nil, Pyd.wipeS, List.foldr_cons, List.foldr_nil, Bool.and_self, Bool.and_true, Bool.true_and, decide_true, forall_const, true_implies, reduceCtorEq, false_implies, and_true, true_and, Option.some.injEq, exists_eq_left, exists_eq_left', Pyd.Rv.val.injEq, Pyd.D.bl.injEq, Pyd.D.int.injEq, exists_and_left, Nat.reduceAdd, Bool.not_true, Bool.not_false, Bool.not_eq_true', Pyd.blsD, Pyd.enc_int, Pyd.enc_nat, Pyd.enc_bool, Pyd.enc_list, Pyd.enc_pair, Pyd.atI_nat, Pyd.atI_0, Pyd.atI_1, Pyd.atI_2, Pyd.atI_3, Pyd.atI_4, Pyd.rgD_nat, Pyd.eqD_int, Pyd.eqD_bl, Pyd.eqD_non, Pyd.eqD_intN, Pyd.eqD_Nint, Pyd.intsD_int, Pyd.intsD_map, Pyd.blsD_map, Pyd.inD_nat_t, Pyd.inD_nat_l, Pyd.inD_int_t, Pyd.inD_int_l, Pyd.cntD_nat, Pyd.cntD_int, List.getElem?_map, Option.map_map, Pyd.ok0, Pyd.ok1, Pyd.ok2, Pyd.ok3, Pyd.ok4, Pyd.ok5, Pyd.ok6, Pyd.ok7, Pyd.ok8, Pyd.ok9, Pyd.ok10, Pyd.ok11, Pyd.ok12, Pyd.ok13, Pyd.ok14, Pyd.ok15, Pyd.ok16, Pyd.ok17, Pyd.ok18, Pyd.ok19, decide_eq_true_eq, decide_eq_false_iff_not, Int.not_lt, Int.not_le, Int.reduceLT, Int.reduceLE, Int.reduceToNat, Int.reducePow, Nat.reducePow, Nat.reduceLT, Nat.reduceLeDiff, Bool.and_eq_true, Int.reduceEq, Nat.reduceEqDiff, Int.reduceNeg, Int.reduceAdd, Int.reduceSub, Int.reduceMul, Int.reduceNe, Int.lt_irrefl, decide_false, Bool.false_and, Bool.and_false, ne_eq, not_true_eq_false, not_false_eq_true, Pyd.Rn.callK1, Pyd.reO_own, Pyd.reO_bor, List.nil_append, List.cons_append, List.append_nil, Pyd.isD_opt, Pyd.isD_optI, Pyd.eqD_optN, Pyd.eqD_optI, Pyd.isi_strI, Pyd.isi_blI, Pyd.isi_blB, Pyd.isi_nnI, Pyd.isi_ttI, Pyd.isi_llI, Pyd.isi_llL, Pyd.isi_blT, Pyd.eqD_tI, Pyd.eqD_tN, Pyd.eqD_lI, Pyd.eqD_lN, Pyd.zip_enc, Pyd.intsD_enc, Pyd.intsD_encN, Pyd.intsD_cons, Pyd.intsD_nil, Pyd.blsD_enc, Pyd.cN0, Pyd.cN1, Pyd.cN2, Pyd.cN3, Pyd.cN4, Pyd.cN5, Pyd.cN6, Pyd.cN7, Pyd.cN8, Pyd.cN9, Pyd.cN10, Pyd.cN11, Pyd.minO_some, Pyd.cmp_ltT, Pyd.ltT_some, Pyd.Rn.rg3, Pyd.Rn.rgM3, Pyd.Rn.revE, Pyd.rev_t, Pyd.rev_l, Pyd.bi_repr, Pyd.bi_sumT, $as,*])

theorem s_less (n : Nat) (p q : Int × Int) (hp : p.1.natAbs < 2 ^ 60) (hq : q.1.natAbs < 2 ^ 60) : lev P (n + 1) 5 [.val (fr p), .val (fr q)] = .ok (.val (.bl (lss p q))) [.val (fr p), .val (fr q)] := by
  obtain ⟨a, b⟩ := p
  obtain ⟨c, d⟩ := q
  dsimp only at hp hq
  rw [at_is_less]
  apply body_ok
  unfold m_is_less
  simp_arith [okMul_l hp, okMul_l hq]
  rfl
/-- a brick: its length, its place -/
structure BrOk (b : Int × Int) : Prop where
  l0 : 1 ≤ b.1
  l1 : b.1 ≤ 20
  p0 : -200 ≤ b.2
  p1 : b.2 ≤ 200
structure PileOk (p : List (Int × Int)) : Prop where
  n0 : 1 ≤ p.length
  n1 : p.length ≤ 8
  h : ∀ b ∈ p, BrOk b
theorem s_is_pile (n : Nat) (p : List (Int × Int)) (h : PileOk p) : lev P (n + 3) 6 [.val (.tup (p.map enc))] = .ok (.val (.bl true)) [.val (.tup (p.map enc))] := by
  have n0 := h.n0
  have n1 := h.n1
  rw [at_is_pile]
  apply body_ok
  unfold m_is_pile b_is_pile_1
  simp_arith [s_is_sized, List.length_map]
  rw [show (decide ((1 : Int) ≤ (p.length : Nat)) && decide ((p.length : Int) ≤ 8)) = true by simp; omega]
  simp_arith []
  rw [comp_map p enc (fun _ => .bl true) rfl (by omega) (fun x hx => by
    obtain ⟨k, m⟩ := x
    simp_arith [show enc (k, m) = .tup [.int k, .int m] from rfl, s_is_sized, show ((2 : Nat) : Int) = 2 from rfl, Int.le_refl]
    try simp [wipeS])]
  simp_arith [all_map_id]
  refine ⟨fun h => by simp at h, fun _ => ?_⟩
  rw [comp_map p enc (fun _ => .bl true) rfl (by omega) (fun x hx => by
    have hx := h.h x hx
    obtain ⟨k, m⟩ := x
    obtain ⟨l0, l1, p0, p1⟩ := hx
    dsimp only at l0 l1 p0 p1
    simp_arith [show enc (k, m) = .tup [.int k, .int m] from rfl, s_is_within, l0, l1, p0, p1]
    try simp [wipeS])]
  simp_arith [all_map_id]
  simp
theorem s_check_pile (n : Nat) (p : List (Int × Int)) (h : PileOk p) : lev P (n + 4) 7 [.val (.tup (p.map enc))] = .ok (.val .non) [.val (.tup (p.map enc))] := by
  rw [at_check_pile]
  apply body_ok
  unfold m_check_pile
  simp_arith [s_is_pile _ p h]
structure LdOk (ls : List Int) (n : Nat) : Prop where
  n : ls.length = n
  h : ∀ l ∈ ls, 0 ≤ l ∧ l ≤ 401
/-- weight and moment of the first many -/
def acc (s : Int × Int) (x : (Int × Int) × Int) : Int × Int := (s.1 + (x.1.1 + x.2), s.2 + (x.1.1 + x.2) * (2 * x.1.2 + x.1.1))
def mid (p : List (Int × Int)) (ls : List Int) (k : Nat) : Int × Int := ((p.take k).zip ls).foldl acc (0, 0)
theorem acc_bd {s : Int × Int} {x : (Int × Int) × Int} (h : BrOk x.1) (l0 : 0 ≤ x.2) (l1 : x.2 ≤ 401) (j : Nat) (h1 : (j : Int) ≤ s.1) (h2 : s.1 ≤ 421 * j) (h3 : s.2.natAbs ≤ 176820 * j) : ((j + 1 : Nat) : Int) ≤ (acc s x).1 ∧ (acc s x).1 ≤ 421 * ((j + 1 : Nat) : Int) ∧ (acc s x).2.natAbs ≤ 176820 * (j + 1) := by
  obtain ⟨a0, a1, b0, b1⟩ := h
  have m : ((x.1.1 + x.2) * (2 * x.1.2 + x.1.1)).natAbs ≤ 421 * 420 := by
    rw [Int.natAbs_mul]
    exact Nat.mul_le_mul (by omega) (by omega)
  unfold acc
  dsimp only
  generalize (x.1.1 + x.2) * (2 * x.1.2 + x.1.1) = z at *
  refine ⟨by omega, by omega, by omega⟩
theorem mid_bd : ∀ (l : List ((Int × Int) × Int)) (s : Int × Int) (j : Nat), (∀ x ∈ l, BrOk x.1 ∧ 0 ≤ x.2 ∧ x.2 ≤ 401) → (j : Int) ≤ s.1 → s.1 ≤ 421 * j → s.2.natAbs ≤ 176820 * j →
    ((j + l.length : Nat) : Int) ≤ (l.foldl acc s).1 ∧ (l.foldl acc s).1 ≤ 421 * ((j + l.length : Nat) : Int) ∧ (l.foldl acc s).2.natAbs ≤ 176820 * (j + l.length)
  | [], s, j, _, h1, h2, h3 => ⟨h1, h2, h3⟩
  | x :: l, s, j, h, h1, h2, h3 => by
    obtain ⟨a, b, c⟩ := h x List.mem_cons_self
    obtain ⟨q1, q2, q3⟩ := acc_bd a b c j h1 h2 h3
    have ih := mid_bd l (acc s x) (j + 1) (fun y hy => h y (List.mem_cons_of_mem _ hy)) q1 q2 q3
    rw [show j + (x :: l).length = j + 1 + l.length by rw [List.length_cons]; omega]
    exact ih
theorem zip_ok {p : List (Int × Int)} {ls : List Int} (hp : ∀ b ∈ p, BrOk b) (hl : ∀ l ∈ ls, 0 ≤ l ∧ l ≤ 401) (k : Nat) : ∀ x ∈ (p.take k).zip ls, BrOk x.1 ∧ 0 ≤ x.2 ∧ x.2 ≤ 401 := fun x hx => ⟨hp _ (List.mem_of_mem_take (List.of_mem_zip hx).1), hl _ (List.of_mem_zip hx).2⟩
theorem mid_ok {p : List (Int × Int)} {ls : List Int} (hp : ∀ b ∈ p, BrOk b) (hl : LdOk ls p.length) (n1 : p.length ≤ 8) {k : Nat} (hk : k ≤ p.length) : (k : Int) ≤ (mid p ls k).1 ∧ (mid p ls k).1 ≤ 4000 ∧ (mid p ls k).2.natAbs ≤ 2000000 := by
  have b := mid_bd ((p.take k).zip ls) (0, 0) 0 (zip_ok hp hl.h k) (by decide) (by decide) (by decide)
  have e : ((p.take k).zip ls).length = k := by
    rw [List.length_zip, List.length_take, hl.n]
    omega
  rw [e] at b
  unfold mid
  generalize ((p.take k).zip ls).foldl acc (0, 0) = z at *
  omega
theorem cut_take {α : Type} (e : α → D) (xs : List α) (k : Nat) : cutD (xs.map e) none (some (k : Int)) = (xs.take k).map e := by
  unfold cutD
  rw [show HT.sIx (xs.map e).length 0 none = 0 from rfl, HT.sIx_nat, List.drop_zero, Nat.sub_zero, ← List.map_take, List.length_map]
  congr 1
  rcases Nat.le_total k xs.length with h | h
  · rw [Nat.min_eq_left h]
  · rw [Nat.min_eq_right h, List.take_length, List.take_of_length_le h]
theorem cut_drop {α : Type} (e : α → D) (xs : List α) (k : Nat) : cutD (xs.map e) (some (k : Int)) none = (xs.drop k).map e := by
  unfold cutD
  rw [show HT.sIx (xs.map e).length (xs.map e).length none = (xs.map e).length from rfl, HT.sIx_nat, List.length_map]
  rcases Nat.le_total k xs.length with h | h
  · rw [Nat.min_eq_left h, ← List.map_drop, List.take_of_length_le]
    rw [List.length_map, List.length_drop]
    exact Nat.le_refl _
  · rw [Nat.min_eq_right h, List.drop_of_length_le (by rw [List.length_map]; exact Nat.le_refl _), List.drop_of_length_le h, List.take_nil]
    rfl

end K78
end

section
set_option Elab.async false
set_option linter.all false
set_option maxRecDepth 100000
set_option maxHeartbeats 4000000
namespace K78
open PySem Pyd L2 Pyd.M Pyd.Enc
local macro_rules | `(tactic| simp_arith [$as,*]) => `(tactic| simp only [Pyd.Rn.ok, Pyd.Rn.exc, Pyd.Rn.no, Pyd.Rn.bnd, Pyd.Rn.guard, Pyd.Rn.opt_some, Pyd.Rn.seq, Pyd.Rn.ifM, Pyd.Rn.forM, Pyd.Rn.loopNil, Pyd.Rn.oneC, Pyd.varM_ap, Pyd.varO_val, Pyd.varO_own, Pyd.varO_bor, Pyd.look_val, Pyd.look_own, Pyd.look_var, Pyd.lookO_val, Pyd.lookO_own, Pyd.lookO_bor, Pyd.frz_val, Pyd.frz_own, Pyd.frz_var, Pyd.frzO_val, Pyd.frzO_own, Pyd.toSl_val, Pyd.toSl_own, Pyd.argOf0_val, Pyd.argOf0_own, Pyd.argOf1_val, Pyd.argOf1_own, Pyd.argOf1_var, Pyd.borO_own, Pyd.borO_bor, Pyd.borO_val, Pyd.storeAt_ap, Pyd.stoO_emp, Pyd.stoO_val, Pyd.stoO_own, Pyd.data_lst, Pyd.Rn.ret, Pyd.Rn.toSl_var, Pyd.Rn.argOf0_var, Pyd.Rn.frzs_nil, Pyd.Rn.frzs_cons, Pyd.Rn.looks_nil, Pyd.Rn.looks_cons, Pyd.Rn.toSls_nil, Pyd.Rn.toSls_cons, Pyd.Rn.argsM_nil, Pyd.Rn.argsM_cons, Pyd.Rn.tupM, Pyd.Rn.lstM, Pyd.Rn.lift1, Pyd.Rn.lift2, Pyd.Rn.binM, Pyd.Rn.unM, Pyd.Rn.andM1, Pyd.Rn.andM, Pyd.Rn.orM1, Pyd.Rn.orM, Pyd.Rn.cmp1M, Pyd.Rn.cmp2M, Pyd.Rn.ixM, Pyd.Rn.ifE, Pyd.Rn.partM_none, Pyd.Rn.partM_some, Pyd.Rn.slM, Pyd.Rn.compE, Pyd.Rn.callF, Pyd.Rn.argS_nil, Pyd.Rn.argS_cons, Pyd.Rn.callK0, Pyd.gotO_val, Pyd.gotO_own, Pyd.gotO_exc, Pyd.Rn.biM, Pyd.Rn.tyM, Pyd.Rn.isiM, Pyd.Rn.lstRg, Pyd.Rn.tupRg, Pyd.Rn.chM, Pyd.chVar_ap, Pyd.Rn.chO_own, Pyd.Rn.chO_bor, Pyd.Rn.mtM, Pyd.Rn.lamM, Pyd.Rn.andT1, Pyd.Rn.andT, Pyd.Rn.orT1, Pyd.Rn.orT, Pyd.Rn.notT, Pyd.Rn.rvT, Pyd.Rn.truT, Pyd.Rn.rgM, Pyd.Rn.rg1, Pyd.Rn.rg2, Pyd.Rn.itE, Pyd.Rn.enE, Pyd.Rn.zpE, Pyd.Rn.asgs_nil, Pyd.Rn.asgs_cons, Pyd.Rn.tgT, Pyd.putVar_ap, Pyd.Rn.putO_own, Pyd.Rn.putO_bor, Pyd.Rn.tgS, Pyd.Rn.asgE, Pyd.Rn.parE, Pyd.Rn.exprM, Pyd.Rn.retM, Pyd.raisM_ap, Pyd.augM_ap, Pyd.Rn.augO, Pyd.bin_add, Pyd.bin_addT, Pyd.bin_addL, Pyd.bin_sub, Pyd.bin_mul, Pyd.bin_mulT, Pyd.bin_mulL, Pyd.bin_div, Pyd.bin_mod, Pyd.bin_pow, Pyd.aug_add, Pyd.aug_sub, Pyd.un_neg, Pyd.un_not, Pyd.cmp_eq, Pyd.cmp_ne, Pyd.cmp_lt, Pyd.cmp_le, Pyd.cmp_gt, Pyd.cmp_ge, Pyd.cmp_is, Pyd.cmp_isnot, Pyd.cmp_in, Pyd.cmp_notin, Pyd.is_bl, Pyd.is_nn, Pyd.is_in, Pyd.is_tn, Pyd.tru_bl, Pyd.tru_int, Pyd.tru_tup, Pyd.tru_lst, Pyd.ix_tup, Pyd.ix_lst, Pyd.seq_tup, Pyd.seq_lst, Pyd.bi_len_t, Pyd.bi_len_l, Pyd.bi_all, Pyd.bi_any, Pyd.bi_sum, Pyd.bi_max, Pyd.bi_min, Pyd.bi_max2, Pyd.bi_min2, Pyd.bi_abs, Pyd.ty_int, Pyd.ty_intb, Pyd.ty_bool, Pyd.ty_booli, Pyd.ty_tt, Pyd.ty_tl, Pyd.ty_lt, Pyd.ty_ll, Pyd.isi_int, Pyd.isi_inb, Pyd.isi_tt, Pyd.isi_lt, Pyd.isi_it, Pyd.isi_nt, Pyd.isi_st, Pyd.ch_app, Pyd.ch_ext, Pyd.ch_pop, Pyd.ch_pop0, Pyd.mto_ct, Pyd.mto_cl, Pyd.mto_il, Pyd.alk_t, Pyd.alk_l, Pyd.mt_ct, Pyd.mt_cl, Pyd.mt_il, Pyd.own_own, Pyd.own_bor, Pyd.plain_emp, Pyd.plain_val, Pyd.sl_t, Pyd.sl_l, Pyd.ret_nx, Pyd.ret_val, Pyd.ret_own, Pyd.so_nil, Pyd.so_val, Pyd.so_bor, Pyd.ret_var, Pyd.rtO_own, Pyd.rtO_val, Pyd.Rn.chk, Pyd.Rn.optMap, Pyd.Rn.optBind, List.getElem?_cons_zero, List.getElem?_cons_succ, List.set_cons_zero, List.set_cons_succ, Option.map_some, Option.bind_some, List.length_cons, List.length_nil, List.map_cons, List.map_nil, List.all_cons, List.all_nil, Pyd.wipeS, List.foldr_cons, List.foldr_nil, Bool.and_self, Bool.and_true, Bool.true_and, decide_true, forall_const, true_implies, reduceCtorEq, false_implies, and_true, true_and, Option.some.injEq, exists_eq_left, exists_eq_left', Pyd.Rv.val.injEq, Pyd.D.bl.injEq, Pyd.D.int.injEq, exists_and_left, Nat.reduceAdd, Bool.not_true, Bool.not_false, Bool.not_eq_true', Pyd.blsD, Pyd.enc_int, Pyd.enc_nat, Pyd.enc_bool, Pyd.enc_list, Pyd.enc_pair, Pyd.atI_nat, Pyd.atI_0, Pyd.atI_1, Pyd.atI_2, Pyd.atI_3, Pyd.atI_4, Pyd.rgD_nat, Pyd.eqD_int, Pyd.eqD_bl, Pyd.eqD_non, Pyd.eqD_intN, Pyd.eqD_Nint, Pyd.intsD_int, Pyd.intsD_map, Pyd.blsD_map, Pyd.inD_nat_t, Pyd.inD_nat_l, Pyd.inD_int_t, Pyd.inD_int_l, Pyd.cntD_nat, Pyd.cntD_int, List.getElem?_map, Option.map_map, Pyd.ok0, Pyd.ok1, Pyd.ok2, Pyd.ok3, Pyd.ok4, Pyd.ok5, Pyd.ok6, Pyd.ok7, Pyd.ok8, Pyd.ok9, Pyd.ok10, Pyd.ok11, Pyd.ok12, Pyd.ok13, Pyd.ok14, Pyd.ok15, Pyd.ok16, Pyd.ok17, Pyd.ok18, Pyd.ok19, decide_eq_true_eq, decide_eq_false_iff_not, Int.not_lt, Int.not_le, Int.reduceLT, Int.reduceLE, Int.reduceToNat, Int.reducePow, Nat.reducePow, Nat.reduceLT, Nat.reduceLeDiff, Bool.and_eq_true, Int.reduceEq, Nat.reduceEqDiff, Int.reduceNeg, Int.reduceAdd, Int.reduceSub, Int.reduceMul, Int.reduceNe, Int.lt_irrefl, decide_false, Bool.false_and, Bool.and_false, ne_eq, not_true_eq_false, not_false_eq_true, Pyd.Rn.callK1, Pyd.reO_own, Pyd.reO_bor, List.nil_append, List.cons_append, List.append_nil, Pyd.isD_opt, Pyd.isD_optI, Pyd.eqD_optN, Pyd.eqD_optI, Pyd.isi_strI, Pyd.isi_blI, Pyd.isi_blB, Pyd.isi_nnI, Pyd.isi_ttI, Pyd.isi_llI, Pyd.isi_llL, Pyd.isi_blT, Pyd.eqD_tI, Pyd.eqD_tN, Pyd.eqD_lI, Pyd.eqD_lN, Pyd.zip_enc, Pyd.intsD_enc, Pyd.intsD_encN, Pyd.intsD_cons, Pyd.intsD_nil, Pyd.blsD_enc, Pyd.cN0, Pyd.cN1, Pyd.cN2, Pyd.cN3, Pyd.cN4, Pyd.cN5, Pyd.cN6, Pyd.cN7, Pyd.cN8, Pyd.cN9, Pyd.cN10, Pyd.cN11, Pyd.minO_some, Pyd.cmp_ltT, Pyd.ltT_some, Pyd.Rn.rg3, Pyd.Rn.rgM3, Pyd.Rn.revE, Pyd.rev_t, Pyd.rev_l, Pyd.bi_repr, Pyd.bi_sumT, $as,*])

theorem s_raw_middle (n : Nat) (p : List (Int × Int)) (ls : List Int) (k : Nat) (hp : ∀ b ∈ p, BrOk b) (hl : LdOk ls p.length) (n1 : p.length ≤ 8) (k0 : 1 ≤ k) (k1 : k ≤ p.length) : lev P (n + 3) 8 [.val (.tup (p.map enc)), .val (.int (k : Int)), .val (.lst (ls.map enc))] = .ok (.val (fr (low (mid p ls k).2 (2 * (mid p ls k).1)))) [.val (.tup (p.map enc)), .val (.int (k : Int)), .val (.lst (ls.map enc))] := by
  obtain ⟨m1, m2, m3⟩ := mid_ok hp hl n1 k1
  have z := zip_ok hp hl.h k
  have b0 := mid_bd ((p.take k).zip ls) (0, 0) 0 z (by decide) (by decide) (by decide)
  rw [at_raw_middle]
  apply body_ok
  unfold m_raw_middle b_raw_middle_4 b_raw_middle_3 b_raw_middle_2 b_raw_middle_1
  simp_arith [cut_take]
  refine loop_list enc (fun s : (Int × Int) × Sl × Sl × Sl => [.val (.tup (p.map enc)), .val (.int (k : Int)), .val (.lst (ls.map enc)), .val (.int s.1.1), .val (.int s.1.2), s.2.1, s.2.2.1, s.2.2.2]) (fun t s => Fre s.2.1 ∧ Fre s.2.2.1 ∧ Fre s.2.2.2 ∧ (∀ x ∈ t, BrOk x.1 ∧ 0 ≤ x.2 ∧ x.2 ≤ 401) ∧ t.foldl acc s.1 = mid p ls k) ((p.take k).zip ls) ((0, 0), .emp, .emp, .emp) ⟨.emp, .emp, .emp, z, rfl⟩ ?_ ?_
  · rintro ⟨⟨l, q⟩, w⟩ t ⟨⟨a, b⟩, s5, s6, s7⟩ ⟨h5, h6, h7, ht, e⟩
    dsimp only at h5 h6 h7
    obtain ⟨⟨l0, l1, p0, p1⟩, w0, w1⟩ := ht _ List.mem_cons_self
    dsimp only at l0 l1 p0 p1 w0 w1
    simp_arith [h5 _ _ _, h6 _ _ _, h7 _ _ _, show enc ((l, q), w) = .tup [.tup [.int l, .int q], .int w] from rfl, okMul_l (show (2 : Int).natAbs < 2 ^ 60 by decide), okMul_l (show (l + w).natAbs < 2 ^ 60 by omega)]
    exact ⟨(acc (a, b) ((l, q), w), .val (.int l), .val (.int q), .val (.int w)), rfl, .val, .val, .val, fun x hx => ht x (List.mem_cons_of_mem _ hx), e⟩
  · rintro ⟨⟨a, b⟩, s5, s6, s7⟩ ⟨h5, h6, h7, _, e⟩
    have e : (a, b) = mid p ls k := e
    have ea : a = (mid p ls k).1 := by rw [← e]
    have eb : b = (mid p ls k).2 := by rw [← e]
    subst ea eb
    simp_arith [okMul_l (show (2 : Int).natAbs < 2 ^ 60 by decide), s_share _ (mid p ls k).2 (2 * (mid p ls k).1) (by omega) (by omega)]
/-- whether the first many tip -/
def tipC (p : List (Int × Int)) (ls : List Int) (k : Nat) : Bool := match p[k]? with
  | none => decide (0 < (mid p ls k).2)
  | some b => decide ((mid p ls k).2 < b.2 * (2 * (mid p ls k).1)) || decide ((b.2 + b.1) * (2 * (mid p ls k).1) < (mid p ls k).2)
def tipN (p : List (Int × Int)) (ls : List Int) : Option Nat := ((List.range p.length).find? fun i => tipC p ls (i + 1)).map (· + 1)
def nE : Option Nat → D
  | none => .non
  | some k => .int (k : Int)
theorem nE_is (o : Option Nat) : isD (nE o) .non = some o.isNone := by cases o <;> rfl
theorem less_mid {M W c : Int} (hW : 0 < W) : lss (low M (2 * W)) (c, 1) = decide (M < c * (2 * W)) := by
  have h := low_gt (a := M) (b := 2 * W) (c := c) (d := 1) (by omega) (by decide)
  unfold lss
  rw [decide_eq_decide, h, Int.mul_one]
theorem mid_less {M W c : Int} (hW : 0 < W) : lss (c, 1) (low M (2 * W)) = decide (c * (2 * W) < M) := by
  have h := low_lt (a := M) (b := 2 * W) (c := c) (d := 1) (by omega) (by decide)
  unfold lss
  rw [decide_eq_decide, h, Int.mul_one]
theorem find_first {α : Type} (c : α → Bool) : ∀ (d : List α) (x : α) (t : List α), (∀ y ∈ d, c y = false) → c x = true → (d ++ x :: t).find? c = some x
  | [], x, t, _, h => by rw [List.nil_append, List.find?_cons_of_pos h]
  | y :: d, x, t, hd, h => by
    rw [List.cons_append, List.find?_cons_of_neg (by rw [hd y List.mem_cons_self]; exact Bool.false_ne_true)]
    exact find_first c d x t (fun z hz => hd z (List.mem_cons_of_mem _ hz)) h
theorem find_nil {α : Type} (c : α → Bool) (l : List α) (h : ∀ y ∈ l, c y = false) : l.find? c = none := List.find?_eq_none.mpr fun y hy => by rw [h y hy]; exact Bool.false_ne_true
theorem s_tips_at (n : Nat) (p : List (Int × Int)) (ls : List Int) (h : ∀ b ∈ p, BrOk b) (hl : LdOk ls p.length) (n1 : p.length ≤ 8) : lev P (n + 4) 10 [.val (.tup (p.map enc)), .val (.lst (ls.map enc))] = .ok (.val (nE (tipN p ls))) [.val (.tup (p.map enc)), .val (.lst (ls.map enc))] := by
  rw [at_tips_at]
  apply body_ok
  unfold m_tips_at b_tips_at_4 b_tips_at_3 b_tips_at_2 b_tips_at_1
  have hrg : rgD 1 ((p.length : Int) + 1) = (List.range p.length).map fun i : Nat => D.int (1 + (i : Int)) := by
    unfold rgD
    rw [show ((p.length : Int) + 1 - 1).toNat = p.length by omega]
  have hok : okRg 1 ((p.length : Int) + 1) = true := by unfold okRg small; simp; omega
  simp_arith [List.length_map, hrg, hok]
  refine loop_list (fun i : Nat => D.int (1 + (i : Int))) (fun s : Sl × Sl × Sl × Sl => [.val (.tup (p.map enc)), .val (.lst (ls.map enc)), s.1, s.2.1, s.2.2.1, s.2.2.2]) (fun t s => Fre s.1 ∧ Fre s.2.1 ∧ Fre s.2.2.1 ∧ Fre s.2.2.2 ∧ ∃ d, d ++ t = List.range p.length ∧ ∀ i ∈ d, tipC p ls (i + 1) = false) (List.range p.length) (.emp, .emp, .emp, .emp) ⟨.emp, .emp, .emp, .emp, [], rfl, fun i hi => nomatch hi⟩ ?_ ?_
  · rintro i t ⟨s2, s3, s4, s5⟩ ⟨h2, h3, h4, h5, d, hd, hn⟩
    dsimp only at h2 h3 h4 h5
    have hi : i < p.length := List.mem_range.mp (by rw [← hd]; exact List.mem_append_right _ List.mem_cons_self)
    have mk := fun n => s_raw_middle n p ls (i + 1) h hl n1 (by omega) (by omega)
    obtain ⟨m1, m2, m3⟩ := mid_ok h hl n1 (show i + 1 ≤ p.length by omega)
    have ei : (1 : Int) + (i : Int) = ((i + 1 : Nat) : Int) := by omega
    have lm := low_abs (x := (mid p ls (i + 1)).2) (b := 2 * (mid p ls (i + 1)).1) (by omega)
    have found : tipC p ls (i + 1) = true → nE (tipN p ls) = .int ((i + 1 : Nat) : Int) := fun hc => by
      unfold tipN
      rw [← hd, find_first _ d i t hn hc]
      rfl
    have next : tipC p ls (i + 1) = false → ∃ d', d' ++ t = List.range p.length ∧ ∀ j ∈ d', tipC p ls (j + 1) = false := fun hc => by
      refine ⟨d ++ [i], by rw [← hd]; simp, fun j hj => ?_⟩
      rcases List.mem_append.mp hj with hj | hj
      · exact hn j hj
      · rw [List.mem_singleton.mp hj]; exact hc
    have nx : ∀ s2 s3 s4 s5, Fre s2 → Fre s3 → Fre s4 → Fre s5 → tipC p ls (i + 1) = false → ∃ s' : Sl × Sl × Sl × Sl, [Sl.val (.tup (p.map enc)), .val (.lst (ls.map enc)), s'.1, s'.2.1, s'.2.2.1, s'.2.2.2] = [Sl.val (.tup (p.map enc)), .val (.lst (ls.map enc)), s2, s3, s4, s5] ∧ Fre s'.1 ∧ Fre s'.2.1 ∧ Fre s'.2.2.1 ∧ Fre s'.2.2.2 ∧ ∃ d, d ++ t = List.range p.length ∧ ∀ i ∈ d, tipC p ls (i + 1) = false := fun s2 s3 s4 s5 g2 g3 g4 g5 hc => ⟨(s2, s3, s4, s5), rfl, g2, g3, g4, g5, next hc⟩
    rw [ei]
    simp_arith [h2 _ _ _, h3 _ _ _, mk]
    rw [List.length_map]
    have ec : tipC p ls (i + 1) = match p[i + 1]? with
      | none => decide (0 < (mid p ls (i + 1)).2)
      | some b => decide ((mid p ls (i + 1)).2 < b.2 * (2 * (mid p ls (i + 1)).1)) || decide ((b.2 + b.1) * (2 * (mid p ls (i + 1)).1) < (mid p ls (i + 1)).2) := rfl
    by_cases hlast : i + 1 = p.length
    · rw [List.getElem?_eq_none (by omega)] at ec
      have s0 := fun n => s_less n (0, 1) (low (mid p ls (i + 1)).2 (2 * (mid p ls (i + 1)).1)) (by decide) (by omega)
      rw [mid_less (by omega), Int.zero_mul] at s0
      have s0 : ∀ n, lev P (n + 1) 5 [.val (.tup [.int 0, .int 1]), .val (fr (low (mid p ls (i + 1)).2 (2 * (mid p ls (i + 1)).1)))] = .ok (.val (.bl (decide (0 < (mid p ls (i + 1)).2)))) [.val (.tup [.int 0, .int 1]), .val (fr (low (mid p ls (i + 1)).2 (2 * (mid p ls (i + 1)).1)))] := s0
      refine ⟨fun _ => ?_, fun hh => absurd (by rw [hlast]) hh⟩
      simp_arith [s0]
      refine ⟨fun hc => ?_, fun hc => ?_⟩
      · rw [found (by rw [ec]; exact decide_eq_true hc)]
      · exact nx _ _ _ _ .val .val h4 h5 (by rw [ec]; exact decide_eq_false (by omega))
    · have li : i + 1 < p.length := by omega
      have pi : p[i + 1]? = some p[i + 1] := List.getElem?_eq_getElem li
      rw [pi] at ec
      have bo := h _ (List.getElem_mem li)
      obtain ⟨l0, l1, q0, q1⟩ := bo
      generalize p[i + 1] = b at *
      have s1 := fun n => s_less n (low (mid p ls (i + 1)).2 (2 * (mid p ls (i + 1)).1)) (b.2, 1) (by omega) (by show b.2.natAbs < _; omega)
      have s2 := fun n => s_less n (b.2 + b.1, 1) (low (mid p ls (i + 1)).2 (2 * (mid p ls (i + 1)).1)) (by show (b.2 + b.1).natAbs < _; omega) (by omega)
      rw [less_mid (by omega)] at s1
      rw [mid_less (by omega)] at s2
      have s1 : ∀ n, lev P (n + 1) 5 [.val (fr (low (mid p ls (i + 1)).2 (2 * (mid p ls (i + 1)).1))), .val (.tup [.int b.2, .int 1])] = .ok (.val (.bl (decide ((mid p ls (i + 1)).2 < b.2 * (2 * (mid p ls (i + 1)).1))))) [.val (fr (low (mid p ls (i + 1)).2 (2 * (mid p ls (i + 1)).1))), .val (.tup [.int b.2, .int 1])] := s1
      have s2 : ∀ n, lev P (n + 1) 5 [.val (.tup [.int (b.2 + b.1), .int 1]), .val (fr (low (mid p ls (i + 1)).2 (2 * (mid p ls (i + 1)).1)))] = .ok (.val (.bl (decide ((b.2 + b.1) * (2 * (mid p ls (i + 1)).1) < (mid p ls (i + 1)).2)))) [.val (.tup [.int (b.2 + b.1), .int 1]), .val (fr (low (mid p ls (i + 1)).2 (2 * (mid p ls (i + 1)).1)))] := s2
      refine ⟨fun hh => absurd (by omega) hlast, fun _ => ?_⟩
      simp_arith [pi, show enc b = D.tup [.int b.1, .int b.2] from rfl, h4 _ _ _, h5 _ _ _, s1, s2]
      refine ⟨fun hc => ?_, fun hc => ⟨fun hc2 => ?_, fun hc2 => ?_⟩⟩
      · rw [found (by rw [ec]; simp [hc])]
      · rw [found (by rw [ec]; simp [hc2])]
      · exact nx _ _ _ _ .val .val .val .val (by rw [ec]; simp; omega)
  · rintro ⟨s2, s3, s4, s5⟩ ⟨h2, h3, h4, h5, d, hd, hn⟩
    have hd : d = List.range p.length := by simpa using hd
    subst hd
    have e : tipN p ls = none := by unfold tipN; rw [find_nil _ _ hn]; rfl
    rw [e]
    simp_arith []
    rfl

end K78
end

section
set_option Elab.async false
set_option linter.all false
set_option maxRecDepth 100000
set_option maxHeartbeats 4000000
namespace K78
open PySem Pyd L2 Pyd.M Pyd.Enc
local macro_rules | `(tactic| simp_arith [$as,*]) => `(tactic| simp only [Pyd.Rn.ok, Pyd.Rn.exc, Pyd.Rn.no, Pyd.Rn.bnd, Pyd.Rn.guard, Pyd.Rn.opt_some, Pyd.Rn.seq, Pyd.Rn.ifM, Pyd.Rn.forM, Pyd.Rn.loopNil, Pyd.Rn.oneC, Pyd.varM_ap, Pyd.varO_val, Pyd.varO_own, Pyd.varO_bor, Pyd.look_val, Pyd.look_own, Pyd.look_var, Pyd.lookO_val, Pyd.lookO_own, Pyd.lookO_bor, Pyd.frz_val, Pyd.frz_own, Pyd.frz_var, Pyd.frzO_val, Pyd.frzO_own, Pyd.toSl_val, Pyd.toSl_own, Pyd.argOf0_val, Pyd.argOf0_own, Pyd.argOf1_val, Pyd.argOf1_own, Pyd.argOf1_var, Pyd.borO_own, Pyd.borO_bor, Pyd.borO_val, Pyd.storeAt_ap, Pyd.stoO_emp, Pyd.stoO_val, Pyd.stoO_own, Pyd.data_lst, Pyd.Rn.ret, Pyd.Rn.toSl_var, Pyd.Rn.argOf0_var, Pyd.Rn.frzs_nil, Pyd.Rn.frzs_cons, Pyd.Rn.looks_nil, Pyd.Rn.looks_cons, Pyd.Rn.toSls_nil, Pyd.Rn.toSls_cons, Pyd.Rn.argsM_nil, Pyd.Rn.argsM_cons, Pyd.Rn.tupM, Pyd.Rn.lstM, Pyd.Rn.lift1, Pyd.Rn.lift2, Pyd.Rn.binM, Pyd.Rn.unM, Pyd.Rn.andM1, Pyd.Rn.andM, Pyd.Rn.orM1, Pyd.Rn.orM, Pyd.Rn.cmp1M, Pyd.Rn.cmp2M, Pyd.Rn.ixM, Pyd.Rn.ifE, Pyd.Rn.partM_none, Pyd.Rn.partM_some, Pyd.Rn.slM, Pyd.Rn.compE, Pyd.Rn.callF, Pyd.Rn.argS_nil, Pyd.Rn.argS_cons, Pyd.Rn.callK0, Pyd.gotO_val, Pyd.gotO_own, Pyd.gotO_exc, Pyd.Rn.biM, Pyd.Rn.tyM, Pyd.Rn.isiM, Pyd.Rn.lstRg, Pyd.Rn.tupRg, Pyd.Rn.chM, Pyd.chVar_ap, Pyd.Rn.chO_own, Pyd.Rn.chO_bor, Pyd.Rn.mtM, Pyd.Rn.lamM, Pyd.Rn.andT1, Pyd.Rn.andT, Pyd.Rn.orT1, Pyd.Rn.orT, Pyd.Rn.notT, Pyd.Rn.rvT, Pyd.Rn.truT, Pyd.Rn.rgM, Pyd.Rn.rg1, Pyd.Rn.rg2, Pyd.Rn.itE, Pyd.Rn.enE, Pyd.Rn.zpE, Pyd.Rn.asgs_nil, Pyd.Rn.asgs_cons, Pyd.Rn.tgT, Pyd.putVar_ap, Pyd.Rn.putO_own, Pyd.Rn.putO_bor, Pyd.Rn.tgS, Pyd.Rn.asgE, Pyd.Rn.parE, Pyd.Rn.exprM, Pyd.Rn.retM, Pyd.raisM_ap, Pyd.augM_ap, Pyd.Rn.augO, Pyd.bin_add, Pyd.bin_addT, Pyd.bin_addL, Pyd.bin_sub, Pyd.bin_mul, Pyd.bin_mulT, Pyd.bin_mulL, Pyd.bin_div, Pyd.bin_mod, Pyd.bin_pow, Pyd.aug_add, Pyd.aug_sub, Pyd.un_neg, Pyd.un_not, Pyd.cmp_eq, Pyd.cmp_ne, Pyd.cmp_lt, Pyd.cmp_le, Pyd.cmp_gt, Pyd.cmp_ge, Pyd.cmp_is, Pyd.cmp_isnot, Pyd.cmp_in, Pyd.cmp_notin, Pyd.is_bl, Pyd.is_nn, Pyd.is_in, Pyd.is_tn, Pyd.tru_bl, Pyd.tru_int, Pyd.tru_tup, Pyd.tru_lst, Pyd.ix_tup, Pyd.ix_lst, Pyd.seq_tup, Pyd.seq_lst, Pyd.bi_len_t, Pyd.bi_len_l, Pyd.bi_all, Pyd.bi_any, Pyd.bi_sum, Pyd.bi_max, Pyd.bi_min, Pyd.bi_max2, Pyd.bi_min2, Pyd.bi_abs, Pyd.ty_int, Pyd.ty_intb, Pyd.ty_bool, Pyd.ty_booli, Pyd.ty_tt, Pyd.ty_tl, Pyd.ty_lt, Pyd.ty_ll, Pyd.isi_int, Pyd.isi_inb, Pyd.isi_tt, Pyd.isi_lt, Pyd.isi_it, Pyd.isi_nt, Pyd.isi_st, Pyd.ch_app, Pyd.ch_ext, Pyd.ch_pop, Pyd.ch_pop0, Pyd.mto_ct, Pyd.mto_cl, Pyd.mto_il, Pyd.alk_t, Pyd.alk_l, Pyd.mt_ct, Pyd.mt_cl, Pyd.mt_il, Pyd.own_own, Pyd.own_bor, Pyd.plain_emp, Pyd.plain_val, Pyd.sl_t, Pyd.sl_l, Pyd.ret_nx, Pyd.ret_val, Pyd.ret_own, Pyd.so_nil, Pyd.so_val, Pyd.so_bor, Pyd.ret_var, Pyd.rtO_own, Pyd.rtO_val, Pyd.Rn.chk, Pyd.Rn.optMap, Pyd.Rn.optBind, List.getElem?_cons_zero, List.getElem?_cons_succ, List.set_cons_zero, List.set_cons_succ, Option.map_some, Option.bind_some, List.length_cons, List.length_nil, List.map_cons, List.map_nil, List.all_cons, List.all_nil, Pyd.wipeS, List.foldr_cons, List.foldr_nil, Bool.and_self, Bool.and_true, Bool.true_and, decide_true, forall_const, true_implies, reduceCtorEq, false_implies, and_true, true_and, Option.some.injEq, exists_eq_left, exists_eq_left', Pyd.Rv.val.injEq, Pyd.D.bl.injEq, Pyd.D.int.injEq, exists_and_left, Nat.reduceAdd, Bool.not_true, Bool.not_false, Bool.not_eq_true', Pyd.blsD, Pyd.enc_int, Pyd.enc_nat, Pyd.enc_bool, Pyd.enc_list, Pyd.enc_pair, Pyd.atI_nat, Pyd.atI_0, Pyd.atI_1, Pyd.atI_2, Pyd.atI_3, Pyd.atI_4, Pyd.rgD_nat, Pyd.eqD_int, Pyd.eqD_bl, Pyd.eqD_non, Pyd.eqD_intN, Pyd.eqD_Nint, Pyd.intsD_int, Pyd.intsD_map, Pyd.blsD_map, Pyd.inD_nat_t, Pyd.inD_nat_l, Pyd.inD_int_t, Pyd.inD_int_l, Pyd.cntD_nat, Pyd.cntD_int, List.getElem?_map, Option.map_map, Pyd.ok0, Pyd.ok1, Pyd.ok2, Pyd.ok3, Pyd.ok4, Pyd.ok5, Pyd.ok6, Pyd.ok7, Pyd.ok8, Pyd.ok9, Pyd.ok10, Pyd.ok11, Pyd.ok12, Pyd.ok13, Pyd.ok14, Pyd.ok15, Pyd.ok16, Pyd.ok17, Pyd.ok18, Pyd.ok19, decide_eq_true_eq, decide_eq_false_iff_not, Int.not_lt, Int.not_le, Int.reduceLT, Int.reduceLE, Int.reduceToNat, Int.reducePow, Nat.reducePow, Nat.reduceLT, Nat.reduceLeDiff, Bool.and_eq_true, Int.reduceEq, Nat.reduceEqDiff, Int.reduceNeg, Int.reduceAdd, Int.reduceSub, Int.reduceMul, Int.reduceNe, Int.lt_irrefl, decide_false, Bool.false_and, Bool.and_false, ne_eq, not_true_eq_false, not_false_eq_true, Pyd.Rn.callK1, Pyd.reO_own, Pyd.reO_bor, List.nil_append, List.cons_append, List.append_nil, Pyd.isD_opt, Pyd.isD_optI, Pyd.eqD_optN, Pyd.eqD_optI, Pyd.isi_strI, Pyd.isi_blI, Pyd.isi_blB, Pyd.isi_nnI, Pyd.isi_ttI, Pyd.isi_llI, Pyd.isi_llL, Pyd.isi_blT, Pyd.eqD_tI, Pyd.eqD_tN, Pyd.eqD_lI, Pyd.eqD_lN, Pyd.zip_enc, Pyd.intsD_enc, Pyd.intsD_encN, Pyd.intsD_cons, Pyd.intsD_nil, Pyd.blsD_enc, Pyd.cN0, Pyd.cN1, Pyd.cN2, Pyd.cN3, Pyd.cN4, Pyd.cN5, Pyd.cN6, Pyd.cN7, Pyd.cN8, Pyd.cN9, Pyd.cN10, Pyd.cN11, Pyd.minO_some, Pyd.cmp_ltT, Pyd.ltT_some, Pyd.Rn.rg3, Pyd.Rn.rgM3, Pyd.Rn.revE, Pyd.rev_t, Pyd.rev_l, Pyd.bi_repr, Pyd.bi_sumT, $as,*])

def toldD (p : List (Int × Int)) (ls : List Int) : D := match tipN p ls with
  | none => .tup [.str "stands"]
  | some k => .tup [.str "tips", .int (k : Int)]
theorem s_told (n : Nat) (p : List (Int × Int)) (ls : List Int) (h : ∀ b ∈ p, BrOk b) (hl : LdOk ls p.length) (n1 : p.length ≤ 8) : lev P (n + 5) 11 [.val (.tup (p.map enc)), .val (.lst (ls.map enc))] = .ok (.val (toldD p ls)) [.val (.tup (p.map enc)), .val (.lst (ls.map enc))] := by
  rw [at_told]
  apply body_ok
  unfold m_told b_told_1
  simp_arith [s_tips_at _ p ls h hl n1, nE_is]
  unfold toldD
  cases tipN p ls with
  | none => simp_arith [Option.isNone_none]
  | some k => simp_arith [Option.isNone_some, nE]
theorem zip_succ {α β : Type} {b : α} {l : β} : ∀ {p : List α} {ls : List β} {i : Nat}, p[i]? = some b → ls[i]? = some l → (p.take (i + 1)).zip ls = (p.take i).zip ls ++ [(b, l)]
  | x :: p, y :: ls, 0, hb, hl => by
    cases hb
    cases hl
    rfl
  | x :: p, y :: ls, i + 1, hb, hl => by
    show (x, y) :: (p.take (i + 1)).zip ls = (x, y) :: ((p.take i).zip ls ++ [(b, l)])
    rw [zip_succ (p := p) (ls := ls) (i := i) (by simpa using hb) (by simpa using hl)]
  | [], _, _, hb, _ => by simp at hb
  | _ :: _, [], _, _, hl => by simp at hl
theorem mid_succ {p : List (Int × Int)} {ls : List Int} {i : Nat} {b : Int × Int} {l : Int} (hb : p[i]? = some b) (hl : ls[i]? = some l) : mid p ls (i + 1) = acc (mid p ls i) (b, l) := by
  unfold mid
  rw [zip_succ hb hl, List.foldl_append]
  rfl
theorem body_own {as : List Sl} {o : Out Pyd.Flow} {b : Ob} (h : Rn (P := ⟨(fun fl ρ => retOf fl ρ = some (.own b) ∧ slOut as ρ = some as), NoE⟩) o) : bodyOut as o = .ok (.own b) as := by
  cases o with
  | bad => exact Rn.of_no h
  | exc c x ρ => rw [Rn.exc] at h; exact h.elim
  | ok fl ρ =>
    rw [Rn.ok] at h
    obtain ⟨h1, h2⟩ := h
    unfold bodyOut
    simp only [h1, h2]
def mids (p : List (Int × Int)) (ls : List Int) (k : Nat) : List (Int × Int) := (List.range k).map fun i => mid p ls (i + 1)
theorem mids_succ (p : List (Int × Int)) (ls : List Int) (k : Nat) : mids p ls (k + 1) = mids p ls k ++ [mid p ls (k + 1)] := by
  unfold mids
  rw [List.range_succ, List.map_append]
  rfl
theorem s_law_middles (n : Nat) (p : List (Int × Int)) (ls : List Int) (h : ∀ b ∈ p, BrOk b) (hl : LdOk ls p.length) (n1 : p.length ≤ 8) : lev P (n + 1) 20 [.val (.tup (p.map enc)), .val (.lst (ls.map enc))] = .ok (.own (.lst ((mids p ls p.length).map enc))) [.val (.tup (p.map enc)), .val (.lst (ls.map enc))] := by
  rw [at__law_middles]
  apply body_own
  unfold m__law_middles b__law_middles_5 b__law_middles_4 b__law_middles_3 b__law_middles_2 b__law_middles_1
  simp_arith []
  refine loop_enum enc (fun s : List (Int × Int) × (Int × Int) × Sl × Sl × Sl => [.val (.tup (p.map enc)), .val (.lst (ls.map enc)), .own (.lst (s.1.map enc)), .val (.int s.2.1.1), .val (.int s.2.1.2), s.2.2.1, s.2.2.2.1, s.2.2.2.2]) (fun t k s => Fre s.2.2.1 ∧ Fre s.2.2.2.1 ∧ Fre s.2.2.2.2 ∧ t = p.drop k ∧ k + t.length = p.length ∧ s.1 = mids p ls k ∧ s.2.1 = mid p ls k) p 0 ([], (0, 0), .emp, .emp, .emp) ⟨.emp, .emp, .emp, rfl, by omega, rfl, rfl⟩ ?_ ?_
  · rintro ⟨l, q⟩ t k ⟨ms, ⟨a, b⟩, s5, s6, s7⟩ ⟨h5, h6, h7, ht, hk, e1, e2⟩
    dsimp only at h5 h6 h7 e1 e2
    rw [List.length_cons] at hk
    have kl : k < p.length := by omega
    have pk : p[k]? = some (l, q) := by
      have := congrArg (fun z => z[0]?) ht
      simpa using this.symm
    have kl2 : k < ls.length := by rw [hl.n]; exact kl
    have lk : ls[k]? = some ls[k] := List.getElem?_eq_getElem kl2
    have ms' := mid_succ pk lk
    have hw := hl.h _ (List.getElem_mem kl2)
    have hb := h _ (List.mem_of_getElem? pk)
    obtain ⟨l0, l1, p0, p1⟩ := hb
    dsimp only at l0 l1 p0 p1
    have ln : ms.length < sizeLine := ltLine (by rw [e1]; unfold mids; rw [List.length_map, List.length_range]; omega)
    generalize ls[k] = w at *
    simp_arith [h5 _ _ _, h6 _ _ _, h7 _ _ _, show enc (l, q) = .tup [.int l, .int q] from rfl, lk, show enc w = D.int w from rfl, okMul_l (show (2 : Int).natAbs < 2 ^ 60 by decide), okMul_l (show (l + w).natAbs < 2 ^ 60 by omega), ln, List.length_map]
    refine ⟨(ms ++ [mid p ls (k + 1)], mid p ls (k + 1), .val (.int (k : Int)), .val (.int l), .val (.int q)), ?_, .val, .val, .val, ?_, by omega, ?_, rfl⟩
    · rw [ms', ← e2]
      unfold acc
      dsimp only
      simp only [List.map_append, List.map_cons, List.map_nil]
      rw [Int.add_assoc]
      rfl
    · rw [List.drop_add_one_eq_tail_drop, ← ht]; rfl
    · dsimp only
      rw [mids_succ, e1]
  · rintro k ⟨ms, ab, s5, s6, s7⟩ ⟨h5, h6, h7, ht, hk, e1, e2⟩
    have hk : k = p.length := by simpa using hk
    subst hk
    have e1 : ms = mids p ls p.length := e1
    subst e1
    simp_arith []
theorem s_law_tipping (n : Nat) (p : List (Int × Int)) (ls : List Int) (h : ∀ b ∈ p, BrOk b) (hl : LdOk ls p.length) (n1 : p.length ≤ 8) : lev P (n + 2) 21 [.val (.tup (p.map enc)), .val (.lst (ls.map enc))] = .ok (.val (nE (tipN p ls))) [.val (.tup (p.map enc)), .val (.lst (ls.map enc))] := by
  rw [at__law_tipping]
  apply body_ok
  unfold m__law_tipping b__law_tipping_3 b__law_tipping_2 b__law_tipping_1
  simp_arith [s_law_middles _ p ls h hl n1]
  refine loop_enum enc (fun s : Sl × Sl × Sl × Sl × Sl => [.val (.tup (p.map enc)), .val (.lst (ls.map enc)), s.1, s.2.1, s.2.2.1, s.2.2.2.1, s.2.2.2.2]) (fun t k s => Fre s.1 ∧ Fre s.2.1 ∧ Fre s.2.2.1 ∧ Fre s.2.2.2.1 ∧ Fre s.2.2.2.2 ∧ t = (mids p ls p.length).drop k ∧ k + t.length = p.length ∧ ∀ i, i < k → tipC p ls (i + 1) = false) (mids p ls p.length) 0 (.emp, .emp, .emp, .emp, .emp) ⟨.emp, .emp, .emp, .emp, .emp, rfl, by unfold mids; simp, fun i hi => absurd hi (Nat.not_lt_zero _)⟩ ?_ ?_
  · rintro ⟨W, M⟩ t k ⟨s2, s3, s4, s5, s6⟩ ⟨h2, h3, h4, h5, h6, ht, hk, hn⟩
    dsimp only at h2 h3 h4 h5 h6
    rw [List.length_cons] at hk
    have kl : k < p.length := by omega
    have em : mid p ls (k + 1) = (W, M) := by
      have := congrArg (fun z => z[0]?) ht
      have e2 : (mids p ls p.length)[k]? = some (W, M) := by simpa using this.symm
      unfold mids at e2
      rw [List.getElem?_map, List.getElem?_range kl] at e2
      exact Option.some.inj e2
    obtain ⟨m1, m2, m3⟩ := mid_ok h hl n1 (show k + 1 ≤ p.length by omega)
    have ec : tipC p ls (k + 1) = match p[k + 1]? with
      | none => decide (0 < (mid p ls (k + 1)).2)
      | some b => decide ((mid p ls (k + 1)).2 < b.2 * (2 * (mid p ls (k + 1)).1)) || decide ((b.2 + b.1) * (2 * (mid p ls (k + 1)).1) < (mid p ls (k + 1)).2) := rfl
    rw [em] at m1 m2 m3 ec
    dsimp only at m1 m2 m3 ec
    have dd : List.range p.length = List.range k ++ k :: (List.range p.length).drop (k + 1) := by
      conv => lhs; rw [← List.take_append_drop k (List.range p.length)]
      rw [List.take_range, Nat.min_eq_left (Nat.le_of_lt kl), List.drop_eq_getElem_cons (by rw [List.length_range]; exact kl), List.getElem_range]
    have found : tipC p ls (k + 1) = true → nE (tipN p ls) = .int ((k : Int) + 1) := fun hc => by
      unfold tipN
      rw [dd, find_first _ _ k _ (fun y hy => hn y (List.mem_range.mp hy)) hc]
      rfl
    have nx : ∀ s2 s3 s4 s5 s6, Fre s2 → Fre s3 → Fre s4 → Fre s5 → Fre s6 → tipC p ls (k + 1) = false → ∃ s' : Sl × Sl × Sl × Sl × Sl, [Sl.val (.tup (p.map enc)), .val (.lst (ls.map enc)), s'.1, s'.2.1, s'.2.2.1, s'.2.2.2.1, s'.2.2.2.2] = [Sl.val (.tup (p.map enc)), .val (.lst (ls.map enc)), s2, s3, s4, s5, s6] ∧ Fre s'.1 ∧ Fre s'.2.1 ∧ Fre s'.2.2.1 ∧ Fre s'.2.2.2.1 ∧ Fre s'.2.2.2.2 ∧ t = (mids p ls p.length).drop (k + 1) ∧ k + 1 + t.length = p.length ∧ ∀ i, i < k + 1 → tipC p ls (i + 1) = false := fun s2 s3 s4 s5 s6 g2 g3 g4 g5 g6 hc => ⟨(s2, s3, s4, s5, s6), rfl, g2, g3, g4, g5, g6, by rw [List.drop_add_one_eq_tail_drop, ← ht]; rfl, by omega, fun i hi => by
      by_cases e : i = k
      · subst e; exact hc
      · exact hn i (by omega)⟩
    simp_arith [h2 _ _ _, h3 _ _ _, h4 _ _ _, show enc (W, M) = .tup [.int W, .int M] from rfl, List.length_map]
    by_cases hlast : k + 1 = p.length
    · rw [List.getElem?_eq_none (by omega)] at ec
      refine ⟨fun hh => by omega, fun _ => ?_⟩
      refine ⟨fun hc => ?_, fun hc => ?_⟩
      · exact (found (by rw [ec]; exact decide_eq_true hc)).symm
      · exact nx _ _ _ _ _ .val .val .val h5 h6 (by rw [ec]; exact decide_eq_false (by omega))
    · have li : k + 1 < p.length := by omega
      have pi : p[k + 1]? = some p[k + 1] := List.getElem?_eq_getElem li
      rw [pi] at ec
      have bo := h _ (List.getElem_mem li)
      have ak : L2.atI (p.map enc) ((k : Int) + 1) = some (enc p[k + 1]) := by
        rw [show ((k : Nat) : Int) + 1 = ((k + 1 : Nat) : Int) from rfl]
        exact L2.atI_nat (by rw [List.getElem?_map, pi]; rfl)
      obtain ⟨l0, l1, q0, q1⟩ := bo
      generalize p[k + 1] = b at *
      refine ⟨fun _ => ?_, fun hh => by omega⟩
      have x1 : 2 * b.2 * W = b.2 * (2 * W) := by grind
      have x2 : 2 * (b.2 + b.1) * W = (b.2 + b.1) * (2 * W) := by grind
      simp_arith [ak, show enc b = D.tup [.int b.1, .int b.2] from rfl, h5 _ _ _, h6 _ _ _, okMul_l (show (2 : Int).natAbs < 2 ^ 60 by decide), okMul_r (show W.natAbs < 2 ^ 60 by omega), x1, x2]
      refine ⟨fun hc => ?_, fun hc => ⟨fun hc2 => ?_, fun hc2 => ?_⟩⟩
      · exact (found (by rw [ec]; simp [hc])).symm
      · exact (found (by rw [ec]; simp [hc2])).symm
      · exact nx _ _ _ _ _ .val .val .val .val .val (by rw [ec]; simp; omega)
  · rintro k ⟨s2, s3, s4, s5, s6⟩ ⟨h2, h3, h4, h5, h6, ht, hk, hn⟩
    have hk : k = p.length := by simpa using hk
    subst hk
    have e : tipN p ls = none := by
      unfold tipN
      rw [find_nil _ _ fun y hy => hn y (List.mem_range.mp hy)]
      rfl
    rw [e]
    simp_arith []
    rfl
theorem s_law_told_of (n : Nat) (p : List (Int × Int)) (ls : List Int) (h : ∀ b ∈ p, BrOk b) (hl : LdOk ls p.length) (n1 : p.length ≤ 8) : lev P (n + 3) 24 [.val (.tup (p.map enc)), .val (.lst (ls.map enc))] = .ok (.val (toldD p ls)) [.val (.tup (p.map enc)), .val (.lst (ls.map enc))] := by
  rw [at__law_told_of]
  apply body_ok
  unfold m__law_told_of b__law_told_of_1
  simp_arith [s_law_tipping _ p ls h hl n1, nE_is]
  unfold toldD
  cases tipN p ls with
  | none => simp_arith [Option.isNone_none]
  | some k => simp_arith [Option.isNone_some, nE]

end K78
end

section
set_option Elab.async false
set_option linter.all false
set_option maxRecDepth 100000
set_option maxHeartbeats 4000000
namespace K78
open PySem Pyd L2 Pyd.M Pyd.Enc
local macro_rules | `(tactic| simp_arith [$as,*]) => `(tactic| simp only [Pyd.Rn.ok, Pyd.Rn.exc, Pyd.Rn.no, Pyd.Rn.bnd, Pyd.Rn.guard, Pyd.Rn.opt_some, Pyd.Rn.seq, Pyd.Rn.ifM, Pyd.Rn.forM, Pyd.Rn.loopNil, Pyd.Rn.oneC, Pyd.varM_ap, Pyd.varO_val, Pyd.varO_own, Pyd.varO_bor, Pyd.look_val, Pyd.look_own, Pyd.look_var, Pyd.lookO_val, Pyd.lookO_own, Pyd.lookO_bor, Pyd.frz_val, Pyd.frz_own, Pyd.frz_var, Pyd.frzO_val, Pyd.frzO_own, Pyd.toSl_val, Pyd.toSl_own, Pyd.argOf0_val, Pyd.argOf0_own, Pyd.argOf1_val, Pyd.argOf1_own, Pyd.argOf1_var, Pyd.borO_own, Pyd.borO_bor, Pyd.borO_val, Pyd.storeAt_ap, Pyd.stoO_emp, Pyd.stoO_val, Pyd.stoO_own, Pyd.data_lst, Pyd.Rn.ret, Pyd.Rn.toSl_var, Pyd.Rn.argOf0_var, Pyd.Rn.frzs_nil, Pyd.Rn.frzs_cons, Pyd.Rn.looks_nil, Pyd.Rn.looks_cons, Pyd.Rn.toSls_nil, Pyd.Rn.toSls_cons, Pyd.Rn.argsM_nil, Pyd.Rn.argsM_cons, Pyd.Rn.tupM, Pyd.Rn.lstM, Pyd.Rn.lift1, Pyd.Rn.lift2, Pyd.Rn.binM, Pyd.Rn.unM, Pyd.Rn.andM1, Pyd.Rn.andM, Pyd.Rn.orM1, Pyd.Rn.orM, Pyd.Rn.cmp1M, Pyd.Rn.cmp2M, Pyd.Rn.ixM, Pyd.Rn.ifE, Pyd.Rn.partM_none, Pyd.Rn.partM_some, Pyd.Rn.slM, Pyd.Rn.compE, Pyd.Rn.callF, Pyd.Rn.argS_nil, Pyd.Rn.argS_cons, Pyd.Rn.callK0, Pyd.gotO_val, Pyd.gotO_own, Pyd.gotO_exc, Pyd.Rn.biM, Pyd.Rn.tyM, Pyd.Rn.isiM, Pyd.Rn.lstRg, Pyd.Rn.tupRg, Pyd.Rn.chM, Pyd.chVar_ap, Pyd.Rn.chO_own, Pyd.Rn.chO_bor, Pyd.Rn.mtM, Pyd.Rn.lamM, Pyd.Rn.andT1, Pyd.Rn.andT, Pyd.Rn.orT1, Pyd.Rn.orT, Pyd.Rn.notT, Pyd.Rn.rvT, Pyd.Rn.truT, Pyd.Rn.rgM, Pyd.Rn.rg1, Pyd.Rn.rg2, Pyd.Rn.itE, Pyd.Rn.enE, Pyd.Rn.zpE, Pyd.Rn.asgs_nil, Pyd.Rn.asgs_cons, Pyd.Rn.tgT, Pyd.putVar_ap, Pyd.Rn.putO_own, Pyd.Rn.putO_bor, Pyd.Rn.tgS, Pyd.Rn.asgE, Pyd.Rn.parE, Pyd.Rn.exprM, Pyd.Rn.retM, Pyd.raisM_ap, Pyd.augM_ap, Pyd.Rn.augO, Pyd.bin_add, Pyd.bin_addT, Pyd.bin_addL, Pyd.bin_sub, Pyd.bin_mul, Pyd.bin_mulT, Pyd.bin_mulL, Pyd.bin_div, Pyd.bin_mod, Pyd.bin_pow, Pyd.aug_add, Pyd.aug_sub, Pyd.un_neg, Pyd.un_not, Pyd.cmp_eq, Pyd.cmp_ne, Pyd.cmp_lt, Pyd.cmp_le, Pyd.cmp_gt, Pyd.cmp_ge, Pyd.cmp_is, Pyd.cmp_isnot, Pyd.cmp_in, Pyd.cmp_notin, Pyd.is_bl, Pyd.is_nn, Pyd.is_in, Pyd.is_tn, Pyd.tru_bl, Pyd.tru_int, Pyd.tru_tup, Pyd.tru_lst, Pyd.ix_tup, Pyd.ix_lst, Pyd.seq_tup, Pyd.seq_lst, Pyd.bi_len_t, Pyd.bi_len_l, Pyd.bi_all, Pyd.bi_any, Pyd.bi_sum, Pyd.bi_max, Pyd.bi_min, Pyd.bi_max2, Pyd.bi_min2, Pyd.bi_abs, Pyd.ty_int, Pyd.ty_intb, Pyd.ty_bool, Pyd.ty_booli, Pyd.ty_tt, Pyd.ty_tl, Pyd.ty_lt, Pyd.ty_ll, Pyd.isi_int, Pyd.isi_inb, Pyd.isi_tt, Pyd.isi_lt, Pyd.isi_it, Pyd.isi_nt, Pyd.isi_st, Pyd.ch_app, Pyd.ch_ext, Pyd.ch_pop, Pyd.ch_pop0, Pyd.mto_ct, Pyd.mto_cl, Pyd.mto_il, Pyd.alk_t, Pyd.alk_l, Pyd.mt_ct, Pyd.mt_cl, Pyd.mt_il, Pyd.own_own, Pyd.own_bor, Pyd.plain_emp, Pyd.plain_val, Pyd.sl_t, Pyd.sl_l, Pyd.ret_nx, Pyd.ret_val, Pyd.ret_own, Pyd.so_nil, Pyd.so_val, Pyd.so_bor, Pyd.ret_var, Pyd.rtO_own, Pyd.rtO_val, Pyd.Rn.chk, Pyd.Rn.optMap, Pyd.Rn.optBind, List.getElem?_cons_zero, List.getElem?_cons_succ, List.set_cons_zero, List.set_cons_succ, Option.map_some, Option.bind_some, List.length_cons, List.length_nil, List.map_cons, List.map_nil, List.all_cons, List.all_nil, Pyd.wipeS, List.foldr_cons, List.foldr_nil, Bool.and_self, Bool.and_true, Bool.true_and, decide_true, forall_const, true_implies, reduceCtorEq, false_implies, and_true, true_and, Option.some.injEq, exists_eq_left, exists_eq_left', Pyd.Rv.val.injEq, Pyd.D.bl.injEq, Pyd.D.int.injEq, exists_and_left, Nat.reduceAdd, Bool.not_true, Bool.not_false, Bool.not_eq_true', Pyd.blsD, Pyd.enc_int, Pyd.enc_nat, Pyd.enc_bool, Pyd.enc_list, Pyd.enc_pair, Pyd.atI_nat, Pyd.atI_0, Pyd.atI_1, Pyd.atI_2, Pyd.atI_3, Pyd.atI_4, Pyd.rgD_nat, Pyd.eqD_int, Pyd.eqD_bl, Pyd.eqD_non, Pyd.eqD_intN, Pyd.eqD_Nint, Pyd.intsD_int, Pyd.intsD_map, Pyd.blsD_map, Pyd.inD_nat_t, Pyd.inD_nat_l, Pyd.inD_int_t, Pyd.inD_int_l, Pyd.cntD_nat, Pyd.cntD_int, List.getElem?_map, Option.map_map, Pyd.ok0, Pyd.ok1, Pyd.ok2, Pyd.ok3, Pyd.ok4, Pyd.ok5, Pyd.ok6, Pyd.ok7, Pyd.ok8, Pyd.ok9, Pyd.ok10, Pyd.ok11, Pyd.ok12, Pyd.ok13, Pyd.ok14, Pyd.ok15, Pyd.ok16, Pyd.ok17, Pyd.ok18, Pyd.ok19, decide_eq_true_eq, decide_eq_false_iff_not, Int.not_lt, Int.not_le, Int.reduceLT, Int.reduceLE, Int.reduceToNat, Int.reducePow, Nat.reducePow, Nat.reduceLT, Nat.reduceLeDiff, Bool.and_eq_true, Int.reduceEq, Nat.reduceEqDiff, Int.reduceNeg, Int.reduceAdd, Int.reduceSub, Int.reduceMul, Int.reduceNe, Int.lt_irrefl, decide_false, Bool.false_and, Bool.and_false, ne_eq, not_true_eq_false, not_false_eq_true, Pyd.Rn.callK1, Pyd.reO_own, Pyd.reO_bor, List.nil_append, List.cons_append, List.append_nil, Pyd.isD_opt, Pyd.isD_optI, Pyd.eqD_optN, Pyd.eqD_optI, Pyd.isi_strI, Pyd.isi_blI, Pyd.isi_blB, Pyd.isi_nnI, Pyd.isi_ttI, Pyd.isi_llI, Pyd.isi_llL, Pyd.isi_blT, Pyd.eqD_tI, Pyd.eqD_tN, Pyd.eqD_lI, Pyd.eqD_lN, Pyd.zip_enc, Pyd.intsD_enc, Pyd.intsD_encN, Pyd.intsD_cons, Pyd.intsD_nil, Pyd.blsD_enc, Pyd.cN0, Pyd.cN1, Pyd.cN2, Pyd.cN3, Pyd.cN4, Pyd.cN5, Pyd.cN6, Pyd.cN7, Pyd.cN8, Pyd.cN9, Pyd.cN10, Pyd.cN11, Pyd.minO_some, Pyd.cmp_ltT, Pyd.ltT_some, Pyd.Rn.rg3, Pyd.Rn.rgM3, Pyd.Rn.revE, Pyd.rev_t, Pyd.rev_l, Pyd.bi_repr, Pyd.bi_sumT, $as,*])

def zer (n : Nat) : List Int := List.replicate n 0
theorem zer_ok (n : Nat) : LdOk (zer n) n := ⟨List.length_replicate .., fun l hl => by rw [List.eq_of_mem_replicate hl]; omega⟩
theorem zer_D (n : Nat) : (List.replicate n [D.int 0]).flatten = (zer n).map enc := by
  unfold zer
  induction n with
  | zero => rfl
  | succ n ih => rw [List.replicate_succ, List.flatten_cons, ih, List.replicate_succ, List.map_cons]; rfl
theorem mul_zer (n : Nat) (hn : n ≤ 1000000) : binD .Mult (.lst [.int 0]) (.int (n : Int)) = some (.own (.lst ((zer n).map enc))) := by
  rw [bin_mulL]
  have h1 : small (n : Int) = true := by unfold small; simp; omega
  have h2 : okLen ([D.int 0].length * (n : Int).toNat) = true := okLen_of (by simp; omega)
  rw [h1, h2, show (n : Int).toNat = n by omega, zer_D]
  rfl
theorem cut_drop1 {α : Type} (e : α → D) (xs : List α) (k : Nat) : cutD (xs.map e) (some ((k : Int) + 1)) none = (xs.drop (k + 1)).map e := cut_drop e xs (k + 1)
/-- a pile that is moved -/
def mv (c : Int) (p : List (Int × Int)) : List (Int × Int) := p.map fun b => (b.1, b.2 - c)
theorem mid_mv (c : Int) : ∀ (l : List ((Int × Int) × Int)) (s t : Int × Int), t = (s.1, s.2 - 2 * c * s.1) → (l.map fun x => ((x.1.1, x.1.2 - c), x.2)).foldl acc t = ((l.foldl acc s).1, (l.foldl acc s).2 - 2 * c * (l.foldl acc s).1)
  | [], s, t, h => h
  | x :: l, s, t, h => by
    rw [List.map_cons, List.foldl_cons, List.foldl_cons]
    refine mid_mv c l (acc s x) _ ?_
    rw [h]
    unfold acc
    dsimp only
    congr 1
    grind
theorem mid_mv' (c : Int) (p : List (Int × Int)) (ls : List Int) (k : Nat) : mid (mv c p) ls k = ((mid p ls k).1, (mid p ls k).2 - 2 * c * (mid p ls k).1) := by
  unfold mid mv
  rw [← List.map_take]
  have e : ((p.take k).map fun b => (b.1, b.2 - c)).zip ls = ((p.take k).zip ls).map fun x => ((x.1.1, x.1.2 - c), x.2) := by
    rw [show ls = ls.map id from (List.map_id ls).symm, List.zip_map, List.map_id]
    rfl
  rw [e]
  exact mid_mv c _ _ _ (by simp)
theorem tipC_mv (c : Int) (p : List (Int × Int)) (ls : List Int) {k : Nat} (hk : k < p.length) : tipC (mv c p) ls k = tipC p ls k := by
  have e1 : (mv c p)[k]? = some (p[k].1, p[k].2 - c) := by unfold mv; rw [List.getElem?_map, List.getElem?_eq_getElem hk]; rfl
  have e2 : p[k]? = some p[k] := List.getElem?_eq_getElem hk
  unfold tipC
  rw [e1, e2, mid_mv']
  dsimp only
  generalize mid p ls k = z
  generalize p[k] = b
  congr 1
  · rw [decide_eq_decide]
    have : (b.2 - c) * (2 * z.1) = b.2 * (2 * z.1) - 2 * c * z.1 := by grind
    omega
  · rw [decide_eq_decide]
    have : (b.2 - c + b.1) * (2 * z.1) = (b.2 + b.1) * (2 * z.1) - 2 * c * z.1 := by grind
    omega
/-- what is drawn so far of a pile that is to stand -/
structure Stg (p : List (Int × Int)) (W M : Int) : Prop where
  m : ∀ k, p.length ≤ k → mid p (zer k) p.length = (W, M)
  n : p.length ≤ 8
  b : ∀ b ∈ p, 1 ≤ b.1 ∧ b.1 ≤ 12 ∧ -(13 * (p.length : Int)) ≤ b.2 ∧ b.2 ≤ 6 * p.length
  w : (p.length : Int) ≤ W
  w1 : W ≤ 12 * p.length
  lo : -(26 * (p.length : Int)) * W ≤ M
  hi : M ≤ 12 * (p.length : Int) * W
  t : ∀ k, p.length ≤ k → ∀ j, 1 ≤ j → j < p.length → tipC p (zer k) j = false
theorem zer_get {k i : Nat} (h : i < k) : (zer k)[i]? = some 0 := by unfold zer; rw [List.getElem?_replicate]; simp [h]
theorem mid_app {p : List (Int × Int)} {b : Int × Int} {ls : List Int} {j : Nat} (h : j ≤ p.length) : mid (p ++ [b]) ls j = mid p ls j := by
  unfold mid
  rw [List.take_append_of_le_length h]
theorem tipC_app {p : List (Int × Int)} {b : Int × Int} {ls : List Int} {j : Nat} (h : j < p.length) : tipC (p ++ [b]) ls j = tipC p ls j := by
  unfold tipC
  rw [mid_app (Nat.le_of_lt h), List.getElem?_append_left h]
theorem Stg.nil : Stg [] 0 0 := ⟨fun _ _ => rfl, by decide, fun _ h => (nomatch h), by decide, by decide, by decide, by decide, fun _ _ _ h1 h2 => absurd h2 (by show ¬ _ < 0; omega)⟩
theorem Stg.add {p : List (Int × Int)} {W M l q : Int} (S : Stg p W M) (hn : p.length < 8) (l0 : 1 ≤ l) (l1 : l ≤ 12) (h0 : p = [] → q = 0)
    (h1 : p ≠ [] → q ≤ M / (2 * W) ∧ M / (2 * W) - 12 ≤ q ∧ 2 * q * W ≤ M ∧ M ≤ 2 * (q + l) * W) : Stg (p ++ [(l, q)]) (W + l) (M + l * (2 * q + l)) := by
  have lp : (p ++ [(l, q)]).length = p.length + 1 := by rw [List.length_append, List.length_singleton]
  obtain ⟨m, n, b, w, w1, lo, hi, t⟩ := S
  have qb : -(13 * (p.length : Int)) - 12 ≤ q ∧ q ≤ 6 * p.length ∧ l * (2 * q + l) ≤ 12 * ((p.length : Int) + 1) * l := by
    by_cases hp : p = []
    · have := h0 hp
      subst hp
      subst this
      refine ⟨by simp, by simp, ?_⟩
      have := Int.mul_le_mul_of_nonneg_right l1 (show 0 ≤ l by omega)
      simp
      exact this
    · obtain ⟨a1, a2, a3, a4⟩ := h1 hp
      have hpl : 0 < p.length := List.length_pos_iff.mpr hp
      have W0 : 0 < 2 * W := by omega
      have g1 : M / (2 * W) ≤ 6 * p.length := by
        have : M / (2 * W) * (2 * W) ≤ M := Int.ediv_mul_le M (by omega)
        have : M / (2 * W) * (2 * W) ≤ 6 * (p.length : Int) * (2 * W) := by
          have e : 6 * (p.length : Int) * (2 * W) = 12 * (p.length : Int) * W := by grind
          omega
        exact Int.le_of_mul_le_mul_right this W0
      have g2 : -(13 * (p.length : Int)) ≤ M / (2 * W) := by
        refine Int.le_ediv_of_mul_le W0 ?_
        have e : -(13 * (p.length : Int)) * (2 * W) = -(26 * (p.length : Int)) * W := by grind
        omega
      refine ⟨by omega, by omega, ?_⟩
      have := Int.mul_le_mul_of_nonneg_left (show 2 * q + l ≤ 12 * ((p.length : Int) + 1) by omega) (show 0 ≤ l by omega)
      rw [Int.mul_comm (12 * ((p.length : Int) + 1)) l]
      exact this
  obtain ⟨q0, q1, q2⟩ := qb
  have nl : 0 ≤ (p.length : Int) := by omega
  refine ⟨fun k hk => ?_, by rw [lp]; omega, fun x hx => ?_, by rw [lp]; omega, by rw [lp]; omega, ?_, ?_, fun k hk j j0 j1 => ?_⟩
  · rw [lp] at hk ⊢
    have e1 : (p ++ [(l, q)])[p.length]? = some (l, q) := by rw [List.getElem?_append_right (Nat.le_refl _)]; simp
    rw [mid_succ e1 (zer_get (show p.length < k by omega)), mid_app (Nat.le_refl _), m k (by omega)]
    unfold acc
    dsimp only
    rw [Int.add_zero]
  · rw [lp]
    rcases List.mem_append.mp hx with hx | hx
    · have := b x hx
      omega
    · rw [List.mem_singleton.mp hx]
      dsimp only
      omega
  · rw [lp]
    have e1 : -(26 * ((p.length + 1 : Nat) : Int)) * (W + l) = -(26 * (p.length : Int)) * W - 26 * W + l * (-(26 * ((p.length : Int) + 1))) := by push_cast; grind
    have := Int.mul_le_mul_of_nonneg_left (show -(26 * ((p.length : Int) + 1)) ≤ 2 * q + l by omega) (show 0 ≤ l by omega)
    omega
  · rw [lp]
    have e1 : 12 * ((p.length + 1 : Nat) : Int) * (W + l) = 12 * (p.length : Int) * W + 12 * W + 12 * ((p.length : Int) + 1) * l := by push_cast; grind
    omega
  · rw [lp] at hk j1
    by_cases hj : j < p.length
    · rw [tipC_app hj]
      exact t k (by omega) j j0 hj
    · have ej : j = p.length := by omega
      subst ej
      have hp : p ≠ [] := fun e => by rw [e] at j0; simp at j0
      obtain ⟨a1, a2, a3, a4⟩ := h1 hp
      unfold tipC
      have e1 : (p ++ [(l, q)])[p.length]? = some (l, q) := by rw [List.getElem?_append_right (Nat.le_refl _)]; simp
      rw [e1, mid_app (Nat.le_refl _), m k (by omega)]
      dsimp only
      have e2 : q * (2 * W) = 2 * q * W := by grind
      have e3 : (q + l) * (2 * W) = 2 * (q + l) * W := by grind
      rw [e2, e3]
      simp
      omega
/-- a pile that stands -/
structure PileS (p : List (Int × Int)) : Prop where
  ok : PileOk p
  st : tipN p (zer p.length) = none
theorem Stg.fin {p : List (Int × Int)} {W M c : Int} (S : Stg p W M) (h0 : 1 ≤ p.length) (c0 : M ≤ c * (2 * W)) (c1 : c * (2 * W) < M + 4 * (2 * W)) : PileS (mv c p) := by
  obtain ⟨m, n, b, w, w1, lo, hi, t⟩ := S
  have W0 : 0 < 2 * W := by omega
  have g1 : -(13 * (p.length : Int)) ≤ c := by
    refine Int.le_of_mul_le_mul_right (a := 2 * W) ?_ W0
    have e : -(13 * (p.length : Int)) * (2 * W) = -(26 * (p.length : Int)) * W := by grind
    omega
  have g2 : c < 6 * p.length + 4 := by
    refine Int.lt_of_mul_lt_mul_right (a := 2 * W) ?_ (Int.le_of_lt W0)
    have e : (6 * (p.length : Int) + 4) * (2 * W) = 12 * (p.length : Int) * W + 4 * (2 * W) := by grind
    omega
  have lm : (mv c p).length = p.length := List.length_map ..
  refine ⟨⟨by omega, by omega, fun x hx => ?_⟩, ?_⟩
  · obtain ⟨y, hy, rfl⟩ := List.mem_map.mp hx
    obtain ⟨y1, y2, y3, y4⟩ := b y hy
    exact ⟨y1, by show y.1 ≤ 20; omega, by show -200 ≤ y.2 - c; omega, by show y.2 - c ≤ 200; omega⟩
  · unfold tipN
    rw [lm, find_nil]
    · rfl
    · intro i hi
      have hi := List.mem_range.mp hi
      by_cases hl : i + 1 < p.length
      · rw [tipC_mv c p _ hl]
        exact t p.length (Nat.le_refl _) (i + 1) (by omega) hl
      · have e : i + 1 = p.length := by omega
        unfold tipC
        rw [List.getElem?_eq_none (by rw [lm]; omega), mid_mv', e, m p.length (Nat.le_refl _)]
        dsimp only
        rw [decide_eq_false_iff_not]
        have : 2 * c * W = c * (2 * W) := by grind
        omega

end K78
end

section
set_option Elab.async false
set_option linter.all false
set_option maxRecDepth 100000
set_option maxHeartbeats 4000000
namespace K78
open PySem Pyd L2 Pyd.M Pyd.Enc
local macro_rules | `(tactic| simp_arith [$as,*]) => `(tactic| simp only [Pyd.Rn.ok, Pyd.Rn.exc, Pyd.Rn.no, Pyd.Rn.bnd, Pyd.Rn.guard, Pyd.Rn.opt_some, Pyd.Rn.seq, Pyd.Rn.ifM, Pyd.Rn.forM, Pyd.Rn.loopNil, Pyd.Rn.oneC, Pyd.varM_ap, Pyd.varO_val, Pyd.varO_own, Pyd.varO_bor, Pyd.look_val, Pyd.look_own, Pyd.look_var, Pyd.lookO_val, Pyd.lookO_own, Pyd.lookO_bor, Pyd.frz_val, Pyd.frz_own, Pyd.frz_var, Pyd.frzO_val, Pyd.frzO_own, Pyd.toSl_val, Pyd.toSl_own, Pyd.argOf0_val, Pyd.argOf0_own, Pyd.argOf1_val, Pyd.argOf1_own, Pyd.argOf1_var, Pyd.borO_own, Pyd.borO_bor, Pyd.borO_val, Pyd.storeAt_ap, Pyd.stoO_emp, Pyd.stoO_val, Pyd.stoO_own, Pyd.data_lst, Pyd.Rn.ret, Pyd.Rn.toSl_var, Pyd.Rn.argOf0_var, Pyd.Rn.frzs_nil, Pyd.Rn.frzs_cons, Pyd.Rn.looks_nil, Pyd.Rn.looks_cons, Pyd.Rn.toSls_nil, Pyd.Rn.toSls_cons, Pyd.Rn.argsM_nil, Pyd.Rn.argsM_cons, Pyd.Rn.tupM, Pyd.Rn.lstM, Pyd.Rn.lift1, Pyd.Rn.lift2, Pyd.Rn.binM, Pyd.Rn.unM, Pyd.Rn.andM1, Pyd.Rn.andM, Pyd.Rn.orM1, Pyd.Rn.orM, Pyd.Rn.cmp1M, Pyd.Rn.cmp2M, Pyd.Rn.ixM, Pyd.Rn.ifE, Pyd.Rn.partM_none, Pyd.Rn.partM_some, Pyd.Rn.slM, Pyd.Rn.compE, Pyd.Rn.callF, Pyd.Rn.argS_nil, Pyd.Rn.argS_cons, Pyd.Rn.callK0, Pyd.gotO_val, Pyd.gotO_own, Pyd.gotO_exc, Pyd.Rn.biM, Pyd.Rn.tyM, Pyd.Rn.isiM, Pyd.Rn.lstRg, Pyd.Rn.tupRg, Pyd.Rn.chM, Pyd.chVar_ap, Pyd.Rn.chO_own, Pyd.Rn.chO_bor, Pyd.Rn.mtM, Pyd.Rn.lamM, Pyd.Rn.andT1, Pyd.Rn.andT, Pyd.Rn.orT1, Pyd.Rn.orT, Pyd.Rn.notT, Pyd.Rn.rvT, Pyd.Rn.truT, Pyd.Rn.rgM, Pyd.Rn.rg1, Pyd.Rn.rg2, Pyd.Rn.itE, Pyd.Rn.enE, Pyd.Rn.zpE, Pyd.Rn.asgs_nil, Pyd.Rn.asgs_cons, Pyd.Rn.tgT, Pyd.putVar_ap, Pyd.Rn.putO_own, Pyd.Rn.putO_bor, Pyd.Rn.tgS, Pyd.Rn.asgE, Pyd.Rn.parE, Pyd.Rn.exprM, Pyd.Rn.retM, Pyd.raisM_ap, Pyd.augM_ap, Pyd.Rn.augO, Pyd.bin_add, Pyd.bin_addT, Pyd.bin_addL, Pyd.bin_sub, Pyd.bin_mul, Pyd.bin_mulT, Pyd.bin_mulL, Pyd.bin_div, Pyd.bin_mod, Pyd.bin_pow, Pyd.aug_add, Pyd.aug_sub, Pyd.un_neg, Pyd.un_not, Pyd.cmp_eq, Pyd.cmp_ne, Pyd.cmp_lt, Pyd.cmp_le, Pyd.cmp_gt, Pyd.cmp_ge, Pyd.cmp_is, Pyd.cmp_isnot, Pyd.cmp_in, Pyd.cmp_notin, Pyd.is_bl, Pyd.is_nn, Pyd.is_in, Pyd.is_tn, Pyd.tru_bl, Pyd.tru_int, Pyd.tru_tup, Pyd.tru_lst, Pyd.ix_tup, Pyd.ix_lst, Pyd.seq_tup, Pyd.seq_lst, Pyd.bi_len_t, Pyd.bi_len_l, Pyd.bi_all, Pyd.bi_any, Pyd.bi_sum, Pyd.bi_max, Pyd.bi_min, Pyd.bi_max2, Pyd.bi_min2, Pyd.bi_abs, Pyd.ty_int, Pyd.ty_intb, Pyd.ty_bool, Pyd.ty_booli, Pyd.ty_tt, Pyd.ty_tl, Pyd.ty_lt, Pyd.ty_ll, Pyd.isi_int, Pyd.isi_inb, Pyd.isi_tt, Pyd.isi_lt, Pyd.isi_it, Pyd.isi_nt, Pyd.isi_st, Pyd.ch_app, Pyd.ch_ext, Pyd.ch_pop, Pyd.ch_pop0, Pyd.mto_ct, Pyd.mto_cl, Pyd.mto_il, Pyd.alk_t, Pyd.alk_l, Pyd.mt_ct, Pyd.mt_cl, Pyd.mt_il, Pyd.own_own, Pyd.own_bor, Pyd.plain_emp, Pyd.plain_val, Pyd.sl_t, Pyd.sl_l, Pyd.ret_nx, Pyd.ret_val, Pyd.ret_own, Pyd.so_nil, Pyd.so_val, Pyd.so_bor, Pyd.ret_var, Pyd.rtO_own, Pyd.rtO_val, Pyd.Rn.chk, Pyd.Rn.optMap, Pyd.Rn.optBind, List.getElem?_cons_zero, List.getElem?_cons_succ, List.set_cons_zero, List.set_cons_succ, Option.map_some, Option.bind_some, List.length_cons, List.length_nil, List.map_cons, List.map_nil, List.all_cons, List.all_nil, Pyd.wipeS, List.foldr_cons, List.foldr_nil, Bool.and_self, Bool.and_true, Bool.true_and, decide_true, forall_const, true_implies, reduceCtorEq, false_implies, and_true, true_and, Option.some.injEq, exists_eq_left, exists_eq_left', Pyd.Rv.val.injEq, Pyd.D.bl.injEq, Pyd.D.int.injEq, exists_and_left, Nat.reduceAdd, Bool.not_true, Bool.not_false, Bool.not_eq_true', Pyd.blsD, Pyd.enc_int, Pyd.enc_nat, Pyd.enc_bool, Pyd.enc_list, Pyd.enc_pair, Pyd.atI_nat, Pyd.atI_0, Pyd.atI_1, Pyd.atI_2, Pyd.atI_3, Pyd.atI_4, Pyd.rgD_nat, Pyd.eqD_int, Pyd.eqD_bl, Pyd.eqD_non, Pyd.eqD_intN, Pyd.eqD_Nint, Pyd.intsD_int, Pyd.intsD_map, Pyd.blsD_map, Pyd.inD_nat_t, Pyd.inD_nat_l, Pyd.inD_int_t, Pyd.inD_int_l, Pyd.cntD_nat, Pyd.cntD_int, List.getElem?_map, Option.map_map, Pyd.ok0, Pyd.ok1, Pyd.ok2, Pyd.ok3, Pyd.ok4, Pyd.ok5, Pyd.ok6, Pyd.ok7, Pyd.ok8, Pyd.ok9, Pyd.ok10, Pyd.ok11, Pyd.ok12, Pyd.ok13, Pyd.ok14, Pyd.ok15, Pyd.ok16, Pyd.ok17, Pyd.ok18, Pyd.ok19, decide_eq_true_eq, decide_eq_false_iff_not, Int.not_lt, Int.not_le, Int.reduceLT, Int.reduceLE, Int.reduceToNat, Int.reducePow, Nat.reducePow, Nat.reduceLT, Nat.reduceLeDiff, Bool.and_eq_true, Int.reduceEq, Nat.reduceEqDiff, Int.reduceNeg, Int.reduceAdd, Int.reduceSub, Int.reduceMul, Int.reduceNe, Int.lt_irrefl, decide_false, Bool.false_and, Bool.and_false, ne_eq, not_true_eq_false, not_false_eq_true, Pyd.Rn.callK1, Pyd.reO_own, Pyd.reO_bor, List.nil_append, List.cons_append, List.append_nil, Pyd.isD_opt, Pyd.isD_optI, Pyd.eqD_optN, Pyd.eqD_optI, Pyd.isi_strI, Pyd.isi_blI, Pyd.isi_blB, Pyd.isi_nnI, Pyd.isi_ttI, Pyd.isi_llI, Pyd.isi_llL, Pyd.isi_blT, Pyd.eqD_tI, Pyd.eqD_tN, Pyd.eqD_lI, Pyd.eqD_lN, Pyd.zip_enc, Pyd.intsD_enc, Pyd.intsD_encN, Pyd.intsD_cons, Pyd.intsD_nil, Pyd.blsD_enc, Pyd.cN0, Pyd.cN1, Pyd.cN2, Pyd.cN3, Pyd.cN4, Pyd.cN5, Pyd.cN6, Pyd.cN7, Pyd.cN8, Pyd.cN9, Pyd.cN10, Pyd.cN11, Pyd.minO_some, Pyd.cmp_ltT, Pyd.ltT_some, Pyd.Rn.rg3, Pyd.Rn.rgM3, Pyd.Rn.revE, Pyd.rev_t, Pyd.rev_l, Pyd.bi_repr, Pyd.bi_sumT, $as,*])

/-- a pile with room on the left -/
structure PileG (p : List (Int × Int)) : Prop where
  ok : PileOk p
  lo : ∀ b ∈ p, -190 ≤ b.2
structure PileT (p : List (Int × Int)) : Prop where
  g : PileG p
  st : tipN p (zer p.length) = none
theorem Stg.finT {p : List (Int × Int)} {W M c : Int} (S : Stg p W M) (h0 : 1 ≤ p.length) (c0 : M ≤ c * (2 * W)) (c1 : c * (2 * W) < M + 4 * (2 * W)) : PileT (mv c p) := by
  have F := S.fin h0 c0 c1
  obtain ⟨m, n, b, w, w1, lo, hi, t⟩ := S
  have W0 : 0 < 2 * W := by omega
  have g2 : c < 6 * p.length + 4 := by
    refine Int.lt_of_mul_lt_mul_right (a := 2 * W) ?_ (Int.le_of_lt W0)
    have e : (6 * (p.length : Int) + 4) * (2 * W) = 12 * (p.length : Int) * W + 4 * (2 * W) := by grind
    omega
  refine ⟨⟨F.ok, fun x hx => ?_⟩, F.st⟩
  obtain ⟨y, hy, rfl⟩ := List.mem_map.mp hx
  obtain ⟨y1, y2, y3, y4⟩ := b y hy
  show -190 ≤ y.2 - c
  omega
theorem Rn.lstand {Q : Rv → List Sl → Prop} {E : Str → Option D → List Sl → Prop} {n i : Nat} {h : List D} {ρ : List Sl} {m : Int} (m0 : 1 ≤ m) (m1 : m ≤ 8) (hρ : ownSl ρ[i]? = true) (H : HOk h)
    (K : ∀ p h', PileT p → HOk h' → Q (.val (.tup (p.map enc))) (ρ.set i (reO ρ[i]? h'))) : Rn (P := ⟨Q, E⟩) (callL (lev P (n + 3)) 23 i [.bor (.lst h), .val (.int m)] ρ) := by
  suffices Z : Rn (P := ⟨fun r ss => ∃ p h', PileT p ∧ HOk h' ∧ r = .val (.tup (p.map enc)) ∧ ss = [.bor (.lst h'), .val (.int m)], NoE⟩) (lev P (n + 3) 23 [.bor (.lst h), .val (.int m)]) by
    obtain ⟨r, ss, e, p, h', a, b, rfl, rfl⟩ := run_eq Z
    rw [callL_ok rfl hρ rfl e, Rn.ok]
    exact K p h' a b
  rw [at__law_standing, Rn.body]
  rw [m__law_standing]
  simp_arith []
  refine Rn.draw rfl H (by omega) (by omega) fun d h' d0 d1 H => ?_
  simp_arith [okRg_int (show 1 + d ≤ 1000000 by omega) (by omega), rgD_0]
  refine comp_run (β := Int) enc enc (fun s : List D × Sl => [.bor (.lst s.1), .val (.int m), .emp, s.2, .emp, .emp, .emp, .emp, .emp, .emp, .emp, .emp, .emp, .emp]) (fun xs ys s => HOk s.1 ∧ ys.length + xs.length = (1 + d).toNat ∧ ∀ y ∈ ys, 1 ≤ y ∧ y ≤ 12) (List.range (1 + d).toNat) (h', .emp) rfl ⟨H, by simp, by simp⟩ ?_ ?_
  · rintro x xs ys ⟨h, s⟩ ⟨H, hl, hy⟩
    simp_arith [Fre.emp _ _ _]
    refine Rn.any rfl H (by simp) (by simp) fun x h' hx H => ?_
    have hk : ∃ k : Int, x = .int k ∧ 4 ≤ k ∧ k ≤ 12 := by
      simp only [List.mem_cons, List.not_mem_nil, or_false] at hx
      rcases hx with rfl | rfl
      · exact ⟨4, rfl, by decide, by decide⟩
      · exact ⟨12, rfl, by decide, by decide⟩
    obtain ⟨b, rfl, b0, b1⟩ := hk
    simp_arith []
    refine Rn.draw rfl H (by omega) (by omega) fun a h' a0 a1 H' => ?_
    simp_arith []
    refine ⟨(h', _), rfl, .inr ⟨H', by simp at hl ⊢; omega, ?_⟩⟩
    intro z hz
    rcases List.mem_append.mp hz with hz | hz
    · exact hy z hz
    · rw [List.mem_singleton.mp hz]; omega
  · rintro lens ⟨h, s⟩ ⟨H, hl, hy⟩
    have hl : lens.length = (1 + d).toNat := hl
    refine ⟨by omega, ?_⟩
    simp_arith [restS, List.getD_cons_succ, List.getD_cons_zero]
    unfold b__law_standing_11
    simp_arith []
    unfold b__law_standing_10
    simp_arith []
    refine loop_list enc (fun s : (List D × List (Int × Int) × Int × Int) × Sl × Sl × Sl × Sl => [.bor (.lst s.1.1), .val (.int m), .val (.lst (lens.map enc)), .emp, .own (.lst (s.1.2.1.map enc)), .val (.int s.1.2.2.1), .val (.int s.1.2.2.2), s.2.1, s.2.2.1, s.2.2.2.1, s.2.2.2.2, .emp, .emp, .emp])
      (fun t s => HOk s.1.1 ∧ Stg s.1.2.1 s.1.2.2.1 s.1.2.2.2 ∧ s.1.2.1.length + t.length = lens.length ∧ (∀ y ∈ t, 1 ≤ y ∧ y ≤ 12) ∧ plainSl (some s.2.1) = true ∧ Fre s.2.2.1 ∧ Fre s.2.2.2.1 ∧ Fre s.2.2.2.2) lens ((h, [], 0, 0), .emp, .emp, .emp, .emp) ⟨H, Stg.nil, by simp, hy, rfl, .emp, .emp, .emp⟩ ?_ ?_
    · rintro l t ⟨⟨h, ps, W, M⟩, s7, s8, s9, s10⟩ ⟨H, S, hlen, ht, P7, F8, F9, F10⟩
      dsimp only at H S hlen P7 F8 F9 F10
      rw [List.length_cons] at hlen
      obtain ⟨l0, l1⟩ := ht l List.mem_cons_self
      have ht' : ∀ y ∈ t, 1 ≤ y ∧ y ≤ 12 := fun y hy => ht y (List.mem_cons_of_mem _ hy)
      have F7 : Fre s7 := by
        cases s7 with
        | emp => exact .emp
        | val d => exact .val
        | own o => cases P7
        | bor o => cases P7
      have nl : ps.length < 8 := by omega
      have ln : ps.length < sizeLine := ltLine (by omega)
      have w := S.w
      have w1 := S.w1
      have go : ∀ (q : Int) (h' : List D) (s9 s10 : Sl), HOk h' → Fre s9 → Fre s10 → Stg (ps ++ [(l, q)]) (W + l) (M + l * (2 * q + l)) →
          Rn (P := ⟨fun fl ρ'' => fl = .nx ∧ ∃ s' : (List D × List (Int × Int) × Int × Int) × Sl × Sl × Sl × Sl, [Sl.bor (.lst s'.1.1), .val (.int m), .val (.lst (lens.map enc)), .emp, .own (.lst (s'.1.2.1.map enc)), .val (.int s'.1.2.2.1), .val (.int s'.1.2.2.2), s'.2.1, s'.2.2.1, s'.2.2.2.1, s'.2.2.2.2, .emp, .emp, .emp] = ρ'' ∧ (HOk s'.1.1 ∧ Stg s'.1.2.1 s'.1.2.2.1 s'.1.2.2.2 ∧ s'.1.2.1.length + t.length = lens.length ∧ (∀ y ∈ t, 1 ≤ y ∧ y ≤ 12) ∧ plainSl (some s'.2.1) = true ∧ Fre s'.2.2.1 ∧ Fre s'.2.2.2.1 ∧ Fre s'.2.2.2.2), NoE⟩)
          (b__law_standing_5 (lev P (n + 2)) [.bor (.lst h'), .val (.int m), .val (.lst (lens.map enc)), .emp, .own (.lst (ps.map enc)), .val (.int W), .val (.int M), .val (.int l), .val (.int q), s9, s10, .emp, .emp, .emp]) := by
        intro q h' s9 s10 H F9 F10 S'
        unfold b__law_standing_5
        simp_arith [ln, List.length_map]
        unfold b__law_standing_4
        simp_arith []
        unfold b__law_standing_3
        simp_arith [okMul_l (show (2 : Int).natAbs < 2 ^ 60 by decide), okMul_l (show l.natAbs < 2 ^ 60 by omega)]
        exact ⟨((h', ps ++ [(l, q)], W + l, M + l * (2 * q + l)), .val (.int l), .val (.int q), s9, s10), by simp only [List.map_append, List.map_cons, List.map_nil]; rfl, H, S', by show (ps ++ [(l, q)]).length + t.length = _; rw [List.length_append, List.length_singleton]; omega, ht', rfl, .val, F9, F10⟩
      simp_arith [F7 _ _ _, show enc l = D.int l from rfl]
      unfold b__law_standing_9
      simp_arith [F8 _ _ _]
      unfold b__law_standing_8
      simp_arith []
      refine ⟨fun hW => ?_, fun hW => ?_⟩
      · have W0 : 0 < 2 * W := by omega
        have hp : ps ≠ [] := fun e => by
          rw [e] at w1
          simp at w1
          omega
        simp_arith [okMul_l (show (2 : Int).natAbs < 2 ^ 60 by decide), okDiv_of W0 (by omega), F9 _ _ _]
        unfold b__law_standing_7
        simp_arith []
        refine Rn.draw rfl H (by omega) (by omega) fun a h' a0 a1 H => ?_
        simp_arith [okDiv_of (show (0 : Int) < 2 by decide) (by decide), F10 _ _ _]
        unfold b__law_standing_6
        have l2 : 0 ≤ l / 2 ∧ l / 2 ≤ 12 := by omega
        have mm := Int.ediv_mul_le M (show 2 * W ≠ 0 by omega)
        have ml := Int.lt_ediv_add_one_mul_self M W0
        generalize hmd : M / (2 * W) = md at *
        have ov : ∀ (x : Int) (n : Nat), lev P (n + 1) 22 [.val (.int x), .val (.int l), .val (.int W), .val (.int M)] = .ok (.val (.bl (decide (2 * x * W ≤ M) && decide (M ≤ 2 * (x + l) * W)))) [.val (.int x), .val (.int l), .val (.int W), .val (.int M)] := by
          intro x n
          rw [at__law_is_over]
          apply body_ok
          unfold m__law_is_over
          simp_arith [okMul_l (show (2 : Int).natAbs < 2 ^ 60 by decide), okMul_r (show W.natAbs < 2 ^ 60 by omega)]
          by_cases c1 : 2 * x * W ≤ M
          · simp [c1]; omega
          · simp [c1]
        have okm : (decide (2 * md * W ≤ M) && decide (M ≤ 2 * (md + l) * W)) = true := by
          have e1 : 2 * md * W = md * (2 * W) := by grind
          have e2 : 2 * (md + l) * W = (md + 1) * (2 * W) + (l - 1) * (2 * W) := by grind
          have := Int.mul_nonneg (show 0 ≤ l - 1 by omega) (show 0 ≤ 2 * W by omega)
          rw [e1, e2]
          simp
          omega
        obtain ⟨q, rest, hf⟩ : ∃ q rest, [md - a, md - l / 2, md].filter (fun x => decide (2 * x * W ≤ M) && decide (M ≤ 2 * (x + l) * W)) = q :: rest := by
          cases e : [md - a, md - l / 2, md].filter (fun x => decide (2 * x * W ≤ M) && decide (M ≤ 2 * (x + l) * W)) with
          | cons q rest => exact ⟨q, rest, rfl⟩
          | nil =>
            have : md ∈ [md - a, md - l / 2, md].filter (fun x => decide (2 * x * W ≤ M) && decide (M ≤ 2 * (x + l) * W)) := List.mem_filter.mpr ⟨by simp, okm⟩
            rw [e] at this
            cases this
        obtain ⟨hq1, hq2⟩ := List.mem_filter.mp (show q ∈ [md - a, md - l / 2, md].filter (fun x => decide (2 * x * W ≤ M) && decide (M ≤ 2 * (x + l) * W)) by rw [hf]; exact List.mem_cons_self)
        have hq3 : 2 * q * W ≤ M ∧ M ≤ 2 * (q + l) * W := by simpa using hq2
        have hq4 : q ≤ md ∧ md - 12 ≤ q := by
          simp only [List.mem_cons, List.not_mem_nil, or_false] at hq1
          omega
        have S' := S.add nl l0 l1 (fun e => absurd e hp) (fun _ => by rw [hmd]; exact ⟨hq4.1, hq4.2, hq3.1, hq3.2⟩)
        simp_arith []
        rw [show [D.int (md - a), D.int (md - l / 2), D.int md] = [md - a, md - l / 2, md].map enc from rfl, comp_filter [md - a, md - l / 2, md] enc (fun x => decide (2 * x * W ≤ M) && decide (M ≤ 2 * (x + l) * W)) enc rfl (by simp) (fun x hx => by
          simp_arith [show enc x = D.int x from rfl, ov]
          cases h1 : (decide (2 * x * W ≤ M) && decide (M ≤ 2 * (x + l) * W))
          · simp [wipeS]
            simpa using h1
          · have h2 : 2 * x * W ≤ M ∧ M ≤ 2 * (x + l) * W := by simpa using h1
            simp [wipeS, h2])]
        rw [hf]
        simp_arith [Fre.val _ _ _]
        exact (go q _ _ _ H .val .val S').mono (fun fl ρ h => by obtain ⟨rfl, h⟩ := h; exact h) (fun _ _ _ z => z.elim)
      · have hp : ps = [] := by
          cases ps with
          | nil => rfl
          | cons x r => rw [List.length_cons] at w; omega
        try simp_arith []
        exact (go 0 _ _ _ H F9 F10 (S.add nl l0 l1 (fun _ => rfl) fun e => absurd hp e)).mono (fun fl ρ h => by obtain ⟨rfl, h⟩ := h; exact h) (fun _ _ _ z => z.elim)
    · rintro ⟨⟨h, ps, W, M⟩, s7, s8, s9, s10⟩ ⟨H, S, hlen, _, P7, F8, F9, F10⟩
      dsimp only at H S P7
      have hlen : ps.length = lens.length := hlen
      have w := S.w
      have w1 := S.w1
      have n1 := S.n
      have W0 : 0 < 2 * W := by omega
      simp_arith []
      unfold b__law_standing_2
      simp_arith [okMul_l (show (2 : Int).natAbs < 2 ^ 60 by decide), okDiv_of W0 (by omega)]
      refine Rn.any rfl H (by simp) (by simp) fun x h' hx H => ?_
      have hk : ∃ k : Int, x = .int k ∧ 0 ≤ k ∧ k ≤ 3 := by
        simp only [List.mem_cons, List.not_mem_nil, or_false] at hx
        rcases hx with rfl | rfl | rfl | rfl
        · exact ⟨0, rfl, by decide, by decide⟩
        · exact ⟨0, rfl, by decide, by decide⟩
        · exact ⟨1, rfl, by decide, by decide⟩
        · exact ⟨3, rfl, by decide, by decide⟩
      obtain ⟨b, rfl, b0, b1⟩ := hk
      have c1 := Int.ediv_mul_le (0 - M) (show 2 * W ≠ 0 by omega)
      have c2 := Int.lt_ediv_add_one_mul_self (0 - M) W0
      simp_arith []
      generalize (0 - M) / (2 * W) = z at *
      have e1 : (z + 1) * (2 * W) = z * (2 * W) + 2 * W := by rw [Int.add_mul, Int.one_mul]
      have e2 : (0 - z + b) * (2 * W) = b * (2 * W) - z * (2 * W) := by grind
      have e3 : 0 ≤ b * (2 * W) := Int.mul_nonneg b0 (by omega)
      have e4 : b * (2 * W) ≤ 3 * (2 * W) := Int.mul_le_mul_of_nonneg_right b1 (by omega)
      have PS := S.finT (c := 0 - z + b) (by omega) (by omega) (by omega)
      unfold b__law_standing_1
      simp_arith []
      rw [comp_map ps enc (fun x => .tup [.int x.1, .int (x.2 - (0 - z + b))]) (by simp [P7, plain_emp]) (by omega) (fun x hx => by
        obtain ⟨l, q⟩ := x
        simp_arith [show enc (l, q) = .tup [.int l, .int q] from rfl, wipeS]
        try simp [wipeS])]
      have ee : (ps.map fun x => D.tup [.int x.1, .int (x.2 - (0 - z + b))]) = (mv (0 - z + b) ps).map enc := by
        unfold mv
        rw [List.map_map]
        rfl
      simp_arith [ee]
      exact ⟨_, PS, h', H, rfl, rfl⟩

end K78
end

section
set_option Elab.async false
set_option linter.all false
set_option maxRecDepth 100000
set_option maxHeartbeats 4000000
namespace K78
open PySem Pyd L2 Pyd.M Pyd.Enc
local macro_rules | `(tactic| simp_arith [$as,*]) => `(tactic| simp only [Pyd.Rn.ok, Pyd.Rn.exc, Pyd.Rn.no, Pyd.Rn.bnd, Pyd.Rn.guard, Pyd.Rn.opt_some, Pyd.Rn.seq, Pyd.Rn.ifM, Pyd.Rn.forM, Pyd.Rn.loopNil, Pyd.Rn.oneC, Pyd.varM_ap, Pyd.varO_val, Pyd.varO_own, Pyd.varO_bor, Pyd.look_val, Pyd.look_own, Pyd.look_var, Pyd.lookO_val, Pyd.lookO_own, Pyd.lookO_bor, Pyd.frz_val, Pyd.frz_own, Pyd.frz_var, Pyd.frzO_val, Pyd.frzO_own, Pyd.toSl_val, Pyd.toSl_own, Pyd.argOf0_val, Pyd.argOf0_own, Pyd.argOf1_val, Pyd.argOf1_own, Pyd.argOf1_var, Pyd.borO_own, Pyd.borO_bor, Pyd.borO_val, Pyd.storeAt_ap, Pyd.stoO_emp, Pyd.stoO_val, Pyd.stoO_own, Pyd.data_lst, Pyd.Rn.ret, Pyd.Rn.toSl_var, Pyd.Rn.argOf0_var, Pyd.Rn.frzs_nil, Pyd.Rn.frzs_cons, Pyd.Rn.looks_nil, Pyd.Rn.looks_cons, Pyd.Rn.toSls_nil, Pyd.Rn.toSls_cons, Pyd.Rn.argsM_nil, Pyd.Rn.argsM_cons, Pyd.Rn.tupM, Pyd.Rn.lstM, Pyd.Rn.lift1, Pyd.Rn.lift2, Pyd.Rn.binM, Pyd.Rn.unM, Pyd.Rn.andM1, Pyd.Rn.andM, Pyd.Rn.orM1, Pyd.Rn.orM, Pyd.Rn.cmp1M, Pyd.Rn.cmp2M, Pyd.Rn.ixM, Pyd.Rn.ifE, Pyd.Rn.partM_none, Pyd.Rn.partM_some, Pyd.Rn.slM, Pyd.Rn.compE, Pyd.Rn.callF, Pyd.Rn.argS_nil, Pyd.Rn.argS_cons, Pyd.Rn.callK0, Pyd.gotO_val, Pyd.gotO_own, Pyd.gotO_exc, Pyd.Rn.biM, Pyd.Rn.tyM, Pyd.Rn.isiM, Pyd.Rn.lstRg, Pyd.Rn.tupRg, Pyd.Rn.chM, Pyd.chVar_ap, Pyd.Rn.chO_own, Pyd.Rn.chO_bor, Pyd.Rn.mtM, Pyd.Rn.lamM, Pyd.Rn.andT1, Pyd.Rn.andT, Pyd.Rn.orT1, Pyd.Rn.orT, Pyd.Rn.notT, Pyd.Rn.rvT, Pyd.Rn.truT, Pyd.Rn.rgM, Pyd.Rn.rg1, Pyd.Rn.rg2, Pyd.Rn.itE, Pyd.Rn.enE, Pyd.Rn.zpE, Pyd.Rn.asgs_nil, Pyd.Rn.asgs_cons, Pyd.Rn.tgT, Pyd.putVar_ap, Pyd.Rn.putO_own, Pyd.Rn.putO_bor, Pyd.Rn.tgS, Pyd.Rn.asgE, Pyd.Rn.parE, Pyd.Rn.exprM, Pyd.Rn.retM, Pyd.raisM_ap, Pyd.augM_ap, Pyd.Rn.augO, Pyd.bin_add, Pyd.bin_addT, Pyd.bin_addL, Pyd.bin_sub, Pyd.bin_mul, Pyd.bin_mulT, Pyd.bin_mulL, Pyd.bin_div, Pyd.bin_mod, Pyd.bin_pow, Pyd.aug_add, Pyd.aug_sub, Pyd.un_neg, Pyd.un_not, Pyd.cmp_eq, Pyd.cmp_ne, Pyd.cmp_lt, Pyd.cmp_le, Pyd.cmp_gt, Pyd.cmp_ge, Pyd.cmp_is, Pyd.cmp_isnot, Pyd.cmp_in, Pyd.cmp_notin, Pyd.is_bl, Pyd.is_nn, Pyd.is_in, Pyd.is_tn, Pyd.tru_bl, Pyd.tru_int, Pyd.tru_tup, Pyd.tru_lst, Pyd.ix_tup, Pyd.ix_lst, Pyd.seq_tup, Pyd.seq_lst, Pyd.bi_len_t, Pyd.bi_len_l, Pyd.bi_all, Pyd.bi_any, Pyd.bi_sum, Pyd.bi_max, Pyd.bi_min, Pyd.bi_max2, Pyd.bi_min2, Pyd.bi_abs, Pyd.ty_int, Pyd.ty_intb, Pyd.ty_bool, Pyd.ty_booli, Pyd.ty_tt, Pyd.ty_tl, Pyd.ty_lt, Pyd.ty_ll, Pyd.isi_int, Pyd.isi_inb, Pyd.isi_tt, Pyd.isi_lt, Pyd.isi_it, Pyd.isi_nt, Pyd.isi_st, Pyd.ch_app, Pyd.ch_ext, Pyd.ch_pop, Pyd.ch_pop0, Pyd.mto_ct, Pyd.mto_cl, Pyd.mto_il, Pyd.alk_t, Pyd.alk_l, Pyd.mt_ct, Pyd.mt_cl, Pyd.mt_il, Pyd.own_own, Pyd.own_bor, Pyd.plain_emp, Pyd.plain_val, Pyd.sl_t, Pyd.sl_l, Pyd.ret_nx, Pyd.ret_val, Pyd.ret_own, Pyd.so_nil, Pyd.so_val, Pyd.so_bor, Pyd.ret_var, Pyd.rtO_own, Pyd.rtO_val, Pyd.Rn.chk, Pyd.Rn.optMap, Pyd.Rn.optBind, List.getElem?_cons_zero, List.getElem?_cons_succ, List.set_cons_zero, List.set_cons_succ, Option.map_some, Option.bind_some, List.length_cons, List.length_nil, List.map_cons, List.map_nil, List.all_cons, List.all_nil, Pyd.wipeS, List.foldr_cons, List.foldr_nil, Bool.and_self, Bool.and_true, Bool.true_and, decide_true, forall_const, true_implies, reduceCtorEq, false_implies, and_true, true_and, Option.some.injEq, exists_eq_left, exists_eq_left', Pyd.Rv.val.injEq, Pyd.D.bl.injEq, Pyd.D.int.injEq, exists_and_left, Nat.reduceAdd, Bool.not_true, Bool.not_false, Bool.not_eq_true', Pyd.blsD, Pyd.enc_int, Pyd.enc_nat, Pyd.enc_bool, Pyd.enc_list, Pyd.enc_pair, Pyd.atI_nat, Pyd.atI_0, Pyd.atI_1, Pyd.atI_2, Pyd.atI_3, Pyd.atI_4, Pyd.rgD_nat, Pyd.eqD_int, Pyd.eqD_bl, Pyd.eqD_non, Pyd.eqD_intN, Pyd.eqD_Nint, Pyd.intsD_int, Pyd.intsD_map, Pyd.blsD_map, Pyd.inD_nat_t, Pyd.inD_nat_l, Pyd.inD_int_t, Pyd.inD_int_l, Pyd.cntD_nat, Pyd.cntD_int, List.getElem?_map, Option.map_map, Pyd.ok0, Pyd.ok1, Pyd.ok2, Pyd.ok3, Pyd.ok4, Pyd.ok5, Pyd.ok6, Pyd.ok7, Pyd.ok8, Pyd.ok9, Pyd.ok10, Pyd.ok11, Pyd.ok12, Pyd.ok13, Pyd.ok14, Pyd.ok15, Pyd.ok16, Pyd.ok17, Pyd.ok18, Pyd.ok19, decide_eq_true_eq, decide_eq_false_iff_not, Int.not_lt, Int.not_le, Int.reduceLT, Int.reduceLE, Int.reduceToNat, Int.reducePow, Nat.reducePow, Nat.reduceLT, Nat.reduceLeDiff, Bool.and_eq_true, Int.reduceEq, Nat.reduceEqDiff, Int.reduceNeg, Int.reduceAdd, Int.reduceSub, Int.reduceMul, Int.reduceNe, Int.lt_irrefl, decide_false, Bool.false_and, Bool.and_false, ne_eq, not_true_eq_false, not_false_eq_true, Pyd.Rn.callK1, Pyd.reO_own, Pyd.reO_bor, List.nil_append, List.cons_append, List.append_nil, Pyd.isD_opt, Pyd.isD_optI, Pyd.eqD_optN, Pyd.eqD_optI, Pyd.isi_strI, Pyd.isi_blI, Pyd.isi_blB, Pyd.isi_nnI, Pyd.isi_ttI, Pyd.isi_llI, Pyd.isi_llL, Pyd.isi_blT, Pyd.eqD_tI, Pyd.eqD_tN, Pyd.eqD_lI, Pyd.eqD_lN, Pyd.zip_enc, Pyd.intsD_enc, Pyd.intsD_encN, Pyd.intsD_cons, Pyd.intsD_nil, Pyd.blsD_enc, Pyd.cN0, Pyd.cN1, Pyd.cN2, Pyd.cN3, Pyd.cN4, Pyd.cN5, Pyd.cN6, Pyd.cN7, Pyd.cN8, Pyd.cN9, Pyd.cN10, Pyd.cN11, Pyd.minO_some, Pyd.cmp_ltT, Pyd.ltT_some, Pyd.Rn.rg3, Pyd.Rn.rgM3, Pyd.Rn.revE, Pyd.rev_t, Pyd.rev_l, Pyd.bi_repr, Pyd.bi_sumT, $as,*])

theorem Rn.lpile {Q : Rv → List Sl → Prop} {E : Str → Option D → List Sl → Prop} {n i : Nat} {h : List D} {ρ : List Sl} {m : Int} (m0 : 1 ≤ m) (m1 : m ≤ 8) (hρ : ownSl ρ[i]? = true) (H : HOk h)
    (K : ∀ p h', PileG p → HOk h' → Q (.val (.tup (p.map enc))) (ρ.set i (reO ρ[i]? h'))) : Rn (P := ⟨Q, E⟩) (callL (lev P (n + 3)) 19 i [.bor (.lst h), .val (.int m)] ρ) := by
  suffices Z : Rn (P := ⟨fun r ss => ∃ p h', PileG p ∧ HOk h' ∧ r = .val (.tup (p.map enc)) ∧ ss = [.bor (.lst h'), .val (.int m)], NoE⟩) (lev P (n + 3) 19 [.bor (.lst h), .val (.int m)]) by
    obtain ⟨r, ss, e, p, h', a, b, rfl, rfl⟩ := run_eq Z
    rw [callL_ok rfl hρ rfl e, Rn.ok]
    exact K p h' a b
  rw [at__law_pile, Rn.body]
  rw [m__law_pile]
  simp_arith []
  refine Rn.draw rfl H (by omega) (by omega) fun f h' f0 f1 H => ?_
  simp_arith []
  unfold b__law_pile_5
  simp_arith []
  refine Rn.draw rfl H (by omega) (by omega) fun d h' d0 d1 H => ?_
  simp_arith [okRg_int (show 1 + d ≤ 1000000 by omega) (by omega), rgD_0]
  refine loop_list enc (fun s : (List D × List (Int × Int) × Int) × Sl × Sl => [.bor (.lst s.1.1), .val (.int m), .own (.lst (s.1.2.1.map enc)), .val (.int s.1.2.2), s.2.1, s.2.2]) (fun t s => HOk s.1.1 ∧ s.1.2.1.length + t.length = (1 + d).toNat ∧ (∀ b ∈ s.1.2.1, BrOk b ∧ -190 ≤ b.2) ∧ -4 - 8 * (s.1.2.1.length : Int) ≤ s.1.2.2 ∧ s.1.2.2 ≤ 4 + s.1.2.1.length ∧ Fre s.2.1 ∧ Fre s.2.2) (List.range (1 + d).toNat) ((h', [], f - 4), .emp, .emp) ⟨H, by simp, fun b hb => (nomatch hb), by show -4 - 8 * 0 ≤ f - 4; omega, by show f - 4 ≤ 4 + 0; omega, .emp, .emp⟩ ?_ ?_
  · rintro lap t ⟨⟨h, ps, q⟩, s4, s5⟩ ⟨H, hl, hb, q0, q1, F4, F5⟩
    dsimp only at H hl hb q0 q1 F4 F5
    rw [List.length_cons] at hl
    have ln : ps.length < sizeLine := ltLine (by omega)
    simp_arith [F4 _ _ _]
    unfold b__law_pile_4
    simp_arith []
    refine Rn.any rfl H (by simp) (by simp) fun x h' hx H => ?_
    have hk : ∃ k : Int, x = .int k ∧ 4 ≤ k ∧ k ≤ 20 := by
      simp only [List.mem_cons, List.not_mem_nil, or_false] at hx
      rcases hx with rfl | rfl
      · exact ⟨4, rfl, by decide, by decide⟩
      · exact ⟨20, rfl, by decide, by decide⟩
    obtain ⟨b, rfl, b0, b1⟩ := hk
    simp_arith []
    refine Rn.draw rfl H (by omega) (by omega) fun a h' a0 a1 H => ?_
    simp_arith [F5 _ _ _]
    unfold b__law_pile_3
    simp_arith [ln, List.length_map]
    unfold b__law_pile_2
    simp_arith []
    refine Rn.any rfl H (by simp) (by simp) fun x h' hx H => ?_
    have hk : ∃ k : Int, x = .int k ∧ 3 ≤ k ∧ k ≤ 9 := by
      simp only [List.mem_cons, List.not_mem_nil, or_false] at hx
      rcases hx with rfl | rfl
      · exact ⟨3, rfl, by decide, by decide⟩
      · exact ⟨9, rfl, by decide, by decide⟩
    obtain ⟨c, rfl, c0, c1⟩ := hk
    simp_arith []
    refine Rn.draw rfl H (by omega) (by omega) fun e h' e0 e1 H => ?_
    simp_arith []
    refine Rn.draw rfl H (by omega) (by omega) fun g h' g0 g1 H => ?_
    simp_arith []
    have lp : (ps ++ [(1 + a, q)]).length = ps.length + 1 := by rw [List.length_append, List.length_singleton]
    refine ⟨((h', ps ++ [(1 + a, q)], q - e + g), .val _, .val _), by simp only [List.map_append, List.map_cons, List.map_nil]; rfl, H, by show (ps ++ [(1 + a, q)]).length + t.length = _; omega, ?_, ?_, ?_, .val, .val⟩
    · intro x hx
      rcases List.mem_append.mp hx with hx | hx
      · exact hb x hx
      · rw [List.mem_singleton.mp hx]
        exact ⟨⟨by show 1 ≤ 1 + a; omega, by show 1 + a ≤ 20; omega, by show -200 ≤ q; omega, by show q ≤ 200; omega⟩, by show -190 ≤ q; omega⟩
    · show -4 - 8 * ((ps ++ [(1 + a, q)]).length : Int) ≤ q - e + g
      rw [lp]; push_cast; omega
    · show q - e + g ≤ 4 + ((ps ++ [(1 + a, q)]).length : Int)
      rw [lp]; push_cast; omega
  · rintro ⟨⟨h, ps, q⟩, s4, s5⟩ ⟨H, hl, hb, _, _, F4, F5⟩
    dsimp only at H hl hb
    have hl : ps.length = (1 + d).toNat := hl
    unfold b__law_pile_1
    simp_arith []
    exact ⟨ps, ⟨⟨by omega, by omega, fun b h => (hb b h).1⟩, fun b h => (hb b h).2⟩, h, H, rfl, rfl⟩
/-- what _law_deep gives -/
inductive Deep : D → Prop
  | non : Deep .non
  | str : Deep (.str "X")
  | emp : Deep .emp
  | tup (x : D) : Deep x → Deep (.tup [x])
  | lst (x : D) : Deep x → Deep (.lst [x])
theorem Rn.ldeep {Q : Rv → List Sl → Prop} {E : Str → Option D → List Sl → Prop} {n i : Nat} {h : List D} {ρ : List Sl} (hρ : ownSl ρ[i]? = true) (H : HOk h)
    (K : ∀ d h', Deep d → HOk h' → Q (.val d) (ρ.set i (reO ρ[i]? h'))) (K2 : ∀ d h', Deep (.lst d) → HOk h' → Q (.own (.lst d)) (ρ.set i (reO ρ[i]? h'))) : Rn (P := ⟨Q, E⟩) (callL (lev P (n + 3)) 18 i [.bor (.lst h)] ρ) := by
  suffices Z : Rn (P := ⟨fun r ss => ∃ h', HOk h' ∧ ss = [.bor (.lst h')] ∧ ((∃ d, Deep d ∧ r = .val d) ∨ ∃ d, Deep (.lst d) ∧ r = .own (.lst d)), NoE⟩) (lev P (n + 3) 18 [.bor (.lst h)]) by
    obtain ⟨r, ss, e, h', a, rfl, b⟩ := run_eq Z
    rcases b with ⟨d, b, rfl⟩ | ⟨d, b, rfl⟩
    · rw [callL_ok rfl hρ rfl e, Rn.ok]
      exact K d h' b a
    · rw [callL_ok rfl hρ rfl e, Rn.ok]
      exact K2 d h' b a
  rw [at__law_deep, Rn.body]
  rw [m__law_deep]
  simp_arith []
  refine Rn.any rfl H (by simp) (by simp) fun x h' hx H => ?_
  have ho : Deep x := by
    simp only [List.mem_cons, List.not_mem_nil, or_false] at hx
    rcases hx with rfl | rfl | rfl
    · exact .non
    · exact .str
    · exact .emp
  simp_arith []
  unfold b__law_deep_3
  simp_arith []
  refine Rn.draw rfl H (by omega) (by omega) fun d h' d0 d1 H => ?_
  simp_arith [okRg_int (show 5 + d ≤ 1000000 by omega) (by omega), rgD_0]
  refine loop_list enc (fun s : List D × (D ⊕ List D) × Sl => [.bor (.lst s.1), (match s.2.1 with | .inl d => .val d | .inr ds => .own (.lst ds)), s.2.2]) (fun _ s => HOk s.1 ∧ (match s.2.1 with | .inl d => Deep d | .inr ds => Deep (.lst ds)) ∧ Fre s.2.2) (List.range (5 + d).toNat) (h', .inl x, .emp) ⟨H, ho, .emp⟩ ?_ ?_
  · rintro st rest ⟨h, z, s2⟩ ⟨H, ho, F2⟩
    dsimp only at H ho F2
    cases z with
    | inl d =>
      have ho : Deep d := ho
      simp_arith [F2 _ _ _]
      unfold b__law_deep_2
      simp_arith []
      refine Rn.draw rfl H (by omega) (by omega) fun e h' e0 e1 H => ?_
      simp_arith []
      refine ⟨fun _ => ?_, fun _ => ?_⟩
      · exact ⟨(h', .inr [d], .val _), rfl, H, .lst _ ho, .val⟩
      · exact ⟨(h', .inl (.tup [d]), .val _), rfl, H, .tup _ ho, .val⟩
    | inr ds =>
      have ho : Deep (.lst ds) := ho
      simp_arith [F2 _ _ _]
      unfold b__law_deep_2
      simp_arith []
      refine Rn.draw rfl H (by omega) (by omega) fun e h' e0 e1 H => ?_
      simp_arith [Fre.val _ _ _]
      refine ⟨fun _ => ?_, fun _ => ?_⟩
      · exact ⟨(h', .inr [.lst ds], .val _), rfl, H, .lst _ ho, .val⟩
      · exact ⟨(h', .inl (.tup [.lst ds]), .val _), rfl, H, .tup _ ho, .val⟩
  · rintro ⟨h, z, s2⟩ ⟨H, ho, F2⟩
    dsimp only at H ho F2
    unfold b__law_deep_1
    cases z with
    | inl d =>
      have ho : Deep d := ho
      simp_arith []
      exact ⟨h, H, rfl, .inl ⟨d, ho, rfl⟩⟩
    | inr ds =>
      have ho : Deep (.lst ds) := ho
      simp_arith []
      exact ⟨h, H, rfl, .inr ⟨ds, ho, rfl⟩⟩
def badP (o : D) : List D := [.non, .tup [], .lst [.tup [.int 2, .int 0]], .tup [.tup [.int 0, .int 0]], .tup [.tup [.int 21, .int 0]], .tup [.tup [.int 2, .int 201]], .tup [.tup [.int 2]], .tup [.tup [.bl true, .int 0]], .tup [.tup [.int 2, .non]], .tup (List.replicate (Int.toNat 9) [D.tup [.int 2, .int 0]]).flatten, .tup [.int 2, .int 0], .str "2@0", .int 0, .emp, o]
theorem Rn.lnop {Q : Rv → List Sl → Prop} {E : Str → Option D → List Sl → Prop} {n i : Nat} {h : List D} {ρ : List Sl} (hρ : ownSl ρ[i]? = true) (H : HOk h)
    (K : ∀ d o h', Deep o → d ∈ badP o → HOk h' → Q (.val d) (ρ.set i (reO ρ[i]? h'))) : Rn (P := ⟨Q, E⟩) (callL (lev P (n + 4)) 25 i [.bor (.lst h)] ρ) := by
  suffices Z : Rn (P := ⟨fun r ss => ∃ d o h', Deep o ∧ d ∈ badP o ∧ HOk h' ∧ r = .val d ∧ ss = [.bor (.lst h')], NoE⟩) (lev P (n + 4) 25 [.bor (.lst h)]) by
    obtain ⟨r, ss, e, d, o, h', a, b, c, rfl, rfl⟩ := run_eq Z
    rw [callL_ok rfl hρ rfl e, Rn.ok]
    exact K d o h' a b c
  rw [at__law_no_pile, Rn.body]
  rw [m__law_no_pile]
  simp_arith []
  unfold b__law_no_pile_1
  simp_arith [List.isEmpty_cons]
  refine Rn.ldeep rfl H (fun o h' O H => ?_) (fun o h' O H => ?_)
  · simp_arith []
    refine Rn.any rfl H (by simp) (by simp) fun x h' hx H => ?_
    simp_arith []
    exact ⟨x, o, O, hx, h', H, rfl, rfl⟩
  · simp_arith []
    refine Rn.any rfl H (by simp) (by simp) fun x h' hx H => ?_
    simp_arith []
    exact ⟨x, .lst o, O, hx, h', H, rfl, rfl⟩

end K78
end

section
set_option Elab.async false
set_option linter.all false
set_option maxRecDepth 100000
set_option maxHeartbeats 4000000
namespace K78
open PySem Pyd L2 Pyd.M Pyd.Enc
local macro_rules | `(tactic| simp_arith [$as,*]) => `(tactic| simp only [Pyd.Rn.ok, Pyd.Rn.exc, Pyd.Rn.no, Pyd.Rn.bnd, Pyd.Rn.guard, Pyd.Rn.opt_some, Pyd.Rn.seq, Pyd.Rn.ifM, Pyd.Rn.forM, Pyd.Rn.loopNil, Pyd.Rn.oneC, Pyd.varM_ap, Pyd.varO_val, Pyd.varO_own, Pyd.varO_bor, Pyd.look_val, Pyd.look_own, Pyd.look_var, Pyd.lookO_val, Pyd.lookO_own, Pyd.lookO_bor, Pyd.frz_val, Pyd.frz_own, Pyd.frz_var, Pyd.frzO_val, Pyd.frzO_own, Pyd.toSl_val, Pyd.toSl_own, Pyd.argOf0_val, Pyd.argOf0_own, Pyd.argOf1_val, Pyd.argOf1_own, Pyd.argOf1_var, Pyd.borO_own, Pyd.borO_bor, Pyd.borO_val, Pyd.storeAt_ap, Pyd.stoO_emp, Pyd.stoO_val, Pyd.stoO_own, Pyd.data_lst, Pyd.Rn.ret, Pyd.Rn.toSl_var, Pyd.Rn.argOf0_var, Pyd.Rn.frzs_nil, Pyd.Rn.frzs_cons, Pyd.Rn.looks_nil, Pyd.Rn.looks_cons, Pyd.Rn.toSls_nil, Pyd.Rn.toSls_cons, Pyd.Rn.argsM_nil, Pyd.Rn.argsM_cons, Pyd.Rn.tupM, Pyd.Rn.lstM, Pyd.Rn.lift1, Pyd.Rn.lift2, Pyd.Rn.binM, Pyd.Rn.unM, Pyd.Rn.andM1, Pyd.Rn.andM, Pyd.Rn.orM1, Pyd.Rn.orM, Pyd.Rn.cmp1M, Pyd.Rn.cmp2M, Pyd.Rn.ixM, Pyd.Rn.ifE, Pyd.Rn.partM_none, Pyd.Rn.partM_some, Pyd.Rn.slM, Pyd.Rn.compE, Pyd.Rn.callF, Pyd.Rn.argS_nil, Pyd.Rn.argS_cons, Pyd.Rn.callK0, Pyd.gotO_val, Pyd.gotO_own, Pyd.gotO_exc, Pyd.Rn.biM, Pyd.Rn.tyM, Pyd.Rn.isiM, Pyd.Rn.lstRg, Pyd.Rn.tupRg, Pyd.Rn.chM, Pyd.chVar_ap, Pyd.Rn.chO_own, Pyd.Rn.chO_bor, Pyd.Rn.mtM, Pyd.Rn.lamM, Pyd.Rn.andT1, Pyd.Rn.andT, Pyd.Rn.orT1, Pyd.Rn.orT, Pyd.Rn.notT, Pyd.Rn.rvT, Pyd.Rn.truT, Pyd.Rn.rgM, Pyd.Rn.rg1, Pyd.Rn.rg2, Pyd.Rn.itE, Pyd.Rn.enE, Pyd.Rn.zpE, Pyd.Rn.asgs_nil, Pyd.Rn.asgs_cons, Pyd.Rn.tgT, Pyd.putVar_ap, Pyd.Rn.putO_own, Pyd.Rn.putO_bor, Pyd.Rn.tgS, Pyd.Rn.asgE, Pyd.Rn.parE, Pyd.Rn.exprM, Pyd.Rn.retM, Pyd.raisM_ap, Pyd.augM_ap, Pyd.Rn.augO, Pyd.bin_add, Pyd.bin_addT, Pyd.bin_addL, Pyd.bin_sub, Pyd.bin_mul, Pyd.bin_mulT, Pyd.bin_mulL, Pyd.bin_div, Pyd.bin_mod, Pyd.bin_pow, Pyd.aug_add, Pyd.aug_sub, Pyd.un_neg, Pyd.un_not, Pyd.cmp_eq, Pyd.cmp_ne, Pyd.cmp_lt, Pyd.cmp_le, Pyd.cmp_gt, Pyd.cmp_ge, Pyd.cmp_is, Pyd.cmp_isnot, Pyd.cmp_in, Pyd.cmp_notin, Pyd.is_bl, Pyd.is_nn, Pyd.is_in, Pyd.is_tn, Pyd.tru_bl, Pyd.tru_int, Pyd.tru_tup, Pyd.tru_lst, Pyd.ix_tup, Pyd.ix_lst, Pyd.seq_tup, Pyd.seq_lst, Pyd.bi_len_t, Pyd.bi_len_l, Pyd.bi_all, Pyd.bi_any, Pyd.bi_sum, Pyd.bi_max, Pyd.bi_min, Pyd.bi_max2, Pyd.bi_min2, Pyd.bi_abs, Pyd.ty_int, Pyd.ty_intb, Pyd.ty_bool, Pyd.ty_booli, Pyd.ty_tt, Pyd.ty_tl, Pyd.ty_lt, Pyd.ty_ll, Pyd.isi_int, Pyd.isi_inb, Pyd.isi_tt, Pyd.isi_lt, Pyd.isi_it, Pyd.isi_nt, Pyd.isi_st, Pyd.ch_app, Pyd.ch_ext, Pyd.ch_pop, Pyd.ch_pop0, Pyd.mto_ct, Pyd.mto_cl, Pyd.mto_il, Pyd.alk_t, Pyd.alk_l, Pyd.mt_ct, Pyd.mt_cl, Pyd.mt_il, Pyd.own_own, Pyd.own_bor, Pyd.plain_emp, Pyd.plain_val, Pyd.sl_t, Pyd.sl_l, Pyd.ret_nx, Pyd.ret_val, Pyd.ret_own, Pyd.so_nil, Pyd.so_val, Pyd.so_bor, Pyd.ret_var, Pyd.rtO_own, Pyd.rtO_val, Pyd.Rn.chk, Pyd.Rn.optMap, Pyd.Rn.optBind, List.getElem?_cons_zero, List.getElem?_cons_succ, List.set_cons_zero, List.set_cons_succ, Option.map_some, Option.bind_some, List.length_cons, List.length_nil, List.map_cons, List.map_nil, List.all_cons, List.all_nil, Pyd.wipeS, List.foldr_cons, List.foldr_nil, Bool.and_self, Bool.and_true, Bool.true_and, decide_true, forall_const, true_implies, reduceCtorEq, false_implies, and_true, true_and, Option.some.injEq, exists_eq_left, exists_eq_left', Pyd.Rv.val.injEq, Pyd.D.bl.injEq, Pyd.D.int.injEq, exists_and_left, Nat.reduceAdd, Bool.not_true, Bool.not_false, Bool.not_eq_true', Pyd.blsD, Pyd.enc_int, Pyd.enc_nat, Pyd.enc_bool, Pyd.enc_list, Pyd.enc_pair, Pyd.atI_nat, Pyd.atI_0, Pyd.atI_1, Pyd.atI_2, Pyd.atI_3, Pyd.atI_4, Pyd.rgD_nat, Pyd.eqD_int, Pyd.eqD_bl, Pyd.eqD_non, Pyd.eqD_intN, Pyd.eqD_Nint, Pyd.intsD_int, Pyd.intsD_map, Pyd.blsD_map, Pyd.inD_nat_t, Pyd.inD_nat_l, Pyd.inD_int_t, Pyd.inD_int_l, Pyd.cntD_nat, Pyd.cntD_int, List.getElem?_map, Option.map_map, Pyd.ok0, Pyd.ok1, Pyd.ok2, Pyd.ok3, Pyd.ok4, Pyd.ok5, Pyd.ok6, Pyd.ok7, Pyd.ok8, Pyd.ok9, Pyd.ok10, Pyd.ok11, Pyd.ok12, Pyd.ok13, Pyd.ok14, Pyd.ok15, Pyd.ok16, Pyd.ok17, Pyd.ok18, Pyd.ok19, decide_eq_true_eq, decide_eq_false_iff_not, Int.not_lt, Int.not_le, Int.reduceLT, Int.reduceLE, Int.reduceToNat, Int.reducePow, Nat.reducePow, Nat.reduceLT, Nat.reduceLeDiff, Bool.and_eq_true, Int.reduceEq, Nat.reduceEqDiff, Int.reduceNeg, Int.reduceAdd, Int.reduceSub, Int.reduceMul, Int.reduceNe, Int.lt_irrefl, decide_false, Bool.false_and, Bool.and_false, ne_eq, not_true_eq_false, not_false_eq_true, Pyd.Rn.callK1, Pyd.reO_own, Pyd.reO_bor, List.nil_append, List.cons_append, List.append_nil, Pyd.isD_opt, Pyd.isD_optI, Pyd.eqD_optN, Pyd.eqD_optI, Pyd.isi_strI, Pyd.isi_blI, Pyd.isi_blB, Pyd.isi_nnI, Pyd.isi_ttI, Pyd.isi_llI, Pyd.isi_llL, Pyd.isi_blT, Pyd.eqD_tI, Pyd.eqD_tN, Pyd.eqD_lI, Pyd.eqD_lN, Pyd.zip_enc, Pyd.intsD_enc, Pyd.intsD_encN, Pyd.intsD_cons, Pyd.intsD_nil, Pyd.blsD_enc, Pyd.cN0, Pyd.cN1, Pyd.cN2, Pyd.cN3, Pyd.cN4, Pyd.cN5, Pyd.cN6, Pyd.cN7, Pyd.cN8, Pyd.cN9, Pyd.cN10, Pyd.cN11, Pyd.minO_some, Pyd.cmp_ltT, Pyd.ltT_some, Pyd.Rn.rg3, Pyd.Rn.rgM3, Pyd.Rn.revE, Pyd.rev_t, Pyd.rev_l, Pyd.bi_repr, Pyd.bi_sumT, $as,*])

theorem s_law_low (n : Nat) (a b : Int) (h0 : 0 < b) (h1 : b < 16000000) : lev P (n + 1) 17 [.val (.int a), .val (.int b)] = .ok (.val (fr (low a b))) [.val (.int a), .val (.int b)] := by
  have g0 := gcd_pos' (a := a) h0
  have g1 := gcd_le' (a := a) h0
  rw [at__law_low]
  apply body_ok
  unfold m__law_low b__law_low_3 b__law_low_2 b__law_low_1
  simp_arith []
  refine loopW_run (fun s : Int × Int => [.val (.int a), .val (.int b), .val (.int s.1), .val (.int s.2)]) (fun s => 0 ≤ s.1 ∧ 0 ≤ s.2 ∧ Int.gcd s.1 s.2 = Int.gcd a b) (fun s => s.2.toNat) ?_ 16777216 (if a < 0 then -a else a, b) ⟨by show 0 ≤ (if a < 0 then -a else a); split <;> omega, by show 0 ≤ b; omega, by show Int.gcd (if a < 0 then -a else a) b = _; split; exact Int.neg_gcd .. ; rfl⟩ (by show b.toNat < _; omega)
  rintro ⟨x, y⟩ ⟨hx, hy, hg⟩
  dsimp only at hx hy hg
  by_cases hz : y = 0
  · subst hz
    have e : x = (Int.gcd a b : Nat) := by
      rw [← hg, Int.gcd_zero_right]; omega
    subst e
    simp_arith [okDiv_of (show (0 : Int) < (Int.gcd a b : Nat) by omega) (by omega)]
    rfl
  · have hp : 0 < y := by omega
    simp_arith [hp]
    exact ⟨(y, x % y), rfl, ⟨hy, Int.emod_nonneg _ hz, by rw [gcd_step hp]; exact hg⟩, by have := Int.emod_lt_of_pos x hp; have := Int.emod_nonneg x hz; show (x % y).toNat < y.toNat; omega⟩

theorem zD (n : Nat) : (List.replicate ((n : Int)).toNat [D.int 0]).flatten = (zer n).map enc := by rw [show (n : Int).toNat = n by omega, zer_D]
theorem smN (n : Nat) (h : n ≤ 1000000) : small (n : Int) = true := by unfold small; simp; omega
theorem oM (n : Nat) (h : n ≤ 1000000) : okLen (1 * ((n : Int)).toNat) = true := okLen_of (by omega)
theorem s_stands (n : Nat) (p : List (Int × Int)) (h : PileOk p) : lev P (n + 6) 12 [.val (.tup (p.map enc))] = .ok (.val (toldD p (zer p.length))) [.val (.tup (p.map enc))] := by
  have n1 := h.n1
  have n0 := h.n0
  rw [at_stands]
  apply body_ok
  unfold m_stands b_stands_1
  simp_arith [s_check_pile _ p h, List.length_map, zD, smN p.length (by omega), oM p.length (by omega), s_told _ p (zer p.length) h.h (zer_ok _) n1]
theorem s_middle_of (n : Nat) (p : List (Int × Int)) (k : Nat) (h : PileOk p) (k0 : 1 ≤ k) (k1 : k ≤ p.length) : lev P (n + 6) 9 [.val (.tup (p.map enc)), .val (.int (k : Int))] = .ok (.val (fr (low (mid p (zer p.length) k).2 (2 * (mid p (zer p.length) k).1)))) [.val (.tup (p.map enc)), .val (.int (k : Int))] := by
  have n1 := h.n1
  have n0 := h.n0
  have i0 : (1 : Int) ≤ (k : Int) := by omega
  have i1 : (k : Int) ≤ (p.length : Int) := by omega
  rw [at_middle_of]
  apply body_ok
  unfold m_middle_of b_middle_of_2 b_middle_of_1
  simp_arith [s_check_pile _ p h, s_is_within, List.length_map, i0, i1, zD, smN p.length (by omega), oM p.length (by omega), s_raw_middle _ p (zer p.length) k h.h (zer_ok _) n1 k0 k1]
def ends (p : List (Int × Int)) : Int := maxI (0 :: p.map fun b => b.2 + b.1)
theorem s_overhang (n : Nat) (p : List (Int × Int)) (h : PileOk p) : lev P (n + 6) 13 [.val (.tup (p.map enc))] = .ok (.val (.int (ends p))) [.val (.tup (p.map enc))] := by
  have n1 := h.n1
  have n0 := h.n0
  rw [at_overhang]
  apply body_ok
  unfold m_overhang b_overhang_1
  simp_arith [s_check_pile _ p h]
  rw [comp_map p enc (fun b => .int (b.2 + b.1)) rfl (by omega) (fun x hx => by
    obtain ⟨l, q⟩ := x
    simp_arith [show enc (l, q) = .tup [.int l, .int q] from rfl, wipeS]
    try simp [wipeS])]
  simp_arith [List.length_map]
  exact ⟨okLen_of (by omega), rfl, rfl⟩

end K78
end

section
set_option Elab.async false
set_option linter.all false
set_option maxRecDepth 100000
set_option maxHeartbeats 4000000
namespace K78
open PySem Pyd L2 Pyd.M Pyd.Enc
local macro_rules | `(tactic| simp_arith [$as,*]) => `(tactic| simp only [Pyd.Rn.ok, Pyd.Rn.exc, Pyd.Rn.no, Pyd.Rn.bnd, Pyd.Rn.guard, Pyd.Rn.opt_some, Pyd.Rn.seq, Pyd.Rn.ifM, Pyd.Rn.forM, Pyd.Rn.loopNil, Pyd.Rn.oneC, Pyd.varM_ap, Pyd.varO_val, Pyd.varO_own, Pyd.varO_bor, Pyd.look_val, Pyd.look_own, Pyd.look_var, Pyd.lookO_val, Pyd.lookO_own, Pyd.lookO_bor, Pyd.frz_val, Pyd.frz_own, Pyd.frz_var, Pyd.frzO_val, Pyd.frzO_own, Pyd.toSl_val, Pyd.toSl_own, Pyd.argOf0_val, Pyd.argOf0_own, Pyd.argOf1_val, Pyd.argOf1_own, Pyd.argOf1_var, Pyd.borO_own, Pyd.borO_bor, Pyd.borO_val, Pyd.storeAt_ap, Pyd.stoO_emp, Pyd.stoO_val, Pyd.stoO_own, Pyd.data_lst, Pyd.Rn.ret, Pyd.Rn.toSl_var, Pyd.Rn.argOf0_var, Pyd.Rn.frzs_nil, Pyd.Rn.frzs_cons, Pyd.Rn.looks_nil, Pyd.Rn.looks_cons, Pyd.Rn.toSls_nil, Pyd.Rn.toSls_cons, Pyd.Rn.argsM_nil, Pyd.Rn.argsM_cons, Pyd.Rn.tupM, Pyd.Rn.lstM, Pyd.Rn.lift1, Pyd.Rn.lift2, Pyd.Rn.binM, Pyd.Rn.unM, Pyd.Rn.andM1, Pyd.Rn.andM, Pyd.Rn.orM1, Pyd.Rn.orM, Pyd.Rn.cmp1M, Pyd.Rn.cmp2M, Pyd.Rn.ixM, Pyd.Rn.ifE, Pyd.Rn.partM_none, Pyd.Rn.partM_some, Pyd.Rn.slM, Pyd.Rn.compE, Pyd.Rn.callF, Pyd.Rn.argS_nil, Pyd.Rn.argS_cons, Pyd.Rn.callK0, Pyd.gotO_val, Pyd.gotO_own, Pyd.gotO_exc, Pyd.Rn.biM, Pyd.Rn.tyM, Pyd.Rn.isiM, Pyd.Rn.lstRg, Pyd.Rn.tupRg, Pyd.Rn.chM, Pyd.chVar_ap, Pyd.Rn.chO_own, Pyd.Rn.chO_bor, Pyd.Rn.mtM, Pyd.Rn.lamM, Pyd.Rn.andT1, Pyd.Rn.andT, Pyd.Rn.orT1, Pyd.Rn.orT, Pyd.Rn.notT, Pyd.Rn.rvT, Pyd.Rn.truT, Pyd.Rn.rgM, Pyd.Rn.rg1, Pyd.Rn.rg2, Pyd.Rn.itE, Pyd.Rn.enE, Pyd.Rn.zpE, Pyd.Rn.asgs_nil, Pyd.Rn.asgs_cons, Pyd.Rn.tgT, Pyd.putVar_ap, Pyd.Rn.putO_own, Pyd.Rn.putO_bor, Pyd.Rn.tgS, Pyd.Rn.asgE, Pyd.Rn.parE, Pyd.Rn.exprM, Pyd.Rn.retM, Pyd.raisM_ap, Pyd.augM_ap, Pyd.Rn.augO, Pyd.bin_add, Pyd.bin_addT, Pyd.bin_addL, Pyd.bin_sub, Pyd.bin_mul, Pyd.bin_mulT, Pyd.bin_mulL, Pyd.bin_div, Pyd.bin_mod, Pyd.bin_pow, Pyd.aug_add, Pyd.aug_sub, Pyd.un_neg, Pyd.un_not, Pyd.cmp_eq, Pyd.cmp_ne, Pyd.cmp_lt, Pyd.cmp_le, Pyd.cmp_gt, Pyd.cmp_ge, Pyd.cmp_is, Pyd.cmp_isnot, Pyd.cmp_in, Pyd.cmp_notin, Pyd.is_bl, Pyd.is_nn, Pyd.is_in, Pyd.is_tn, Pyd.tru_bl, Pyd.tru_int, Pyd.tru_tup, Pyd.tru_lst, Pyd.ix_tup, Pyd.ix_lst, Pyd.seq_tup, Pyd.seq_lst, Pyd.bi_len_t, Pyd.bi_len_l, Pyd.bi_all, Pyd.bi_any, Pyd.bi_sum, Pyd.bi_max, Pyd.bi_min, Pyd.bi_max2, Pyd.bi_min2, Pyd.bi_abs, Pyd.ty_int, Pyd.ty_intb, Pyd.ty_bool, Pyd.ty_booli, Pyd.ty_tt, Pyd.ty_tl, Pyd.ty_lt, Pyd.ty_ll, Pyd.isi_int, Pyd.isi_inb, Pyd.isi_tt, Pyd.isi_lt, Pyd.isi_it, Pyd.isi_nt, Pyd.isi_st, Pyd.ch_app, Pyd.ch_ext, Pyd.ch_pop, Pyd.ch_pop0, Pyd.mto_ct, Pyd.mto_cl, Pyd.mto_il, Pyd.alk_t, Pyd.alk_l, Pyd.mt_ct, Pyd.mt_cl, Pyd.mt_il, Pyd.own_own, Pyd.own_bor, Pyd.plain_emp, Pyd.plain_val, Pyd.sl_t, Pyd.sl_l, Pyd.ret_nx, Pyd.ret_val, Pyd.ret_own, Pyd.so_nil, Pyd.so_val, Pyd.so_bor, Pyd.ret_var, Pyd.rtO_own, Pyd.rtO_val, Pyd.Rn.chk, Pyd.Rn.optMap, Pyd.Rn.optBind, List.getElem?_cons_zero, List.getElem?_cons_succ, List.set_cons_zero, List.set_cons_succ, Option.map_some, Option.bind_some, List.length_cons, List.length_nil, List.map_cons, List.map_nil, List.all_cons, List.all_nil, Pyd.wipeS, List.foldr_cons, List.foldr_nil, Bool.and_self, Bool.and_true, Bool.true_and, decide_true, forall_const, true_implies, reduceCtorEq, false_implies, and_true, true_and, Option.some.injEq, exists_eq_left, exists_eq_left', Pyd.Rv.val.injEq, Pyd.D.bl.injEq, Pyd.D.int.injEq, exists_and_left, Nat.reduceAdd, Bool.not_true, Bool.not_false, Bool.not_eq_true', Pyd.blsD, Pyd.enc_int, Pyd.enc_nat, Pyd.enc_bool, Pyd.enc_list, Pyd.enc_pair, Pyd.atI_nat, Pyd.atI_0, Pyd.atI_1, Pyd.atI_2, Pyd.atI_3, Pyd.atI_4, Pyd.rgD_nat, Pyd.eqD_int, Pyd.eqD_bl, Pyd.eqD_non, Pyd.eqD_intN, Pyd.eqD_Nint, Pyd.intsD_int, Pyd.intsD_map, Pyd.blsD_map, Pyd.inD_nat_t, Pyd.inD_nat_l, Pyd.inD_int_t, Pyd.inD_int_l, Pyd.cntD_nat, Pyd.cntD_int, List.getElem?_map, Option.map_map, Pyd.ok0, Pyd.ok1, Pyd.ok2, Pyd.ok3, Pyd.ok4, Pyd.ok5, Pyd.ok6, Pyd.ok7, Pyd.ok8, Pyd.ok9, Pyd.ok10, Pyd.ok11, Pyd.ok12, Pyd.ok13, Pyd.ok14, Pyd.ok15, Pyd.ok16, Pyd.ok17, Pyd.ok18, Pyd.ok19, decide_eq_true_eq, decide_eq_false_iff_not, Int.not_lt, Int.not_le, Int.reduceLT, Int.reduceLE, Int.reduceToNat, Int.reducePow, Nat.reducePow, Nat.reduceLT, Nat.reduceLeDiff, Bool.and_eq_true, Int.reduceEq, Nat.reduceEqDiff, Int.reduceNeg, Int.reduceAdd, Int.reduceSub, Int.reduceMul, Int.reduceNe, Int.lt_irrefl, decide_false, Bool.false_and, Bool.and_false, ne_eq, not_true_eq_false, not_false_eq_true, Pyd.Rn.callK1, Pyd.reO_own, Pyd.reO_bor, List.nil_append, List.cons_append, List.append_nil, Pyd.isD_opt, Pyd.isD_optI, Pyd.eqD_optN, Pyd.eqD_optI, Pyd.isi_strI, Pyd.isi_blI, Pyd.isi_blB, Pyd.isi_nnI, Pyd.isi_ttI, Pyd.isi_llI, Pyd.isi_llL, Pyd.isi_blT, Pyd.eqD_tI, Pyd.eqD_tN, Pyd.eqD_lI, Pyd.eqD_lN, Pyd.zip_enc, Pyd.intsD_enc, Pyd.intsD_encN, Pyd.intsD_cons, Pyd.intsD_nil, Pyd.blsD_enc, Pyd.cN0, Pyd.cN1, Pyd.cN2, Pyd.cN3, Pyd.cN4, Pyd.cN5, Pyd.cN6, Pyd.cN7, Pyd.cN8, Pyd.cN9, Pyd.cN10, Pyd.cN11, Pyd.minO_some, Pyd.cmp_ltT, Pyd.ltT_some, Pyd.Rn.rg3, Pyd.Rn.rgM3, Pyd.Rn.revE, Pyd.rev_t, Pyd.rev_l, Pyd.bi_repr, Pyd.bi_sumT, $as,*])

theorem toldD_eq (p : List (Int × Int)) (ls : List Int) : eqD (toldD p ls) (toldD p ls) = some true := by
  unfold toldD
  cases tipN p ls with
  | none => exact eqD_self (show (D.tup [.str "stands"]).nice 64 = true by decide +kernel)
  | some k => exact eqD_self (show (D.tup [.str "tips", .int (k : Int)]).nice 64 = true by kernel_rfl)
theorem toldD_nice (p : List (Int × Int)) (ls : List Int) : (D.lst [toldD p ls, toldD p ls]).nice 64 = true := by
  unfold toldD
  cases tipN p ls <;> kernel_rfl

theorem mv_len (c : Int) (p : List (Int × Int)) : (mv c p).length = p.length := List.length_map ..
theorem mv_ok {p : List (Int × Int)} (h : PileG p) : PileOk (mv 3 p) := ⟨by rw [mv_len]; exact h.ok.n0, by rw [mv_len]; exact h.ok.n1, fun b hb => by
  obtain ⟨y, hy, rfl⟩ := List.mem_map.mp hb
  obtain ⟨a1, a2, a3, a4⟩ := h.ok.h y hy
  have := h.lo y hy
  exact ⟨a1, a2, by show -200 ≤ y.2 - 3; omega, by show y.2 - 3 ≤ 200; omega⟩⟩
theorem tipC_end (p : List (Int × Int)) (ls : List Int) : tipC p ls p.length = decide (0 < (mid p ls p.length).2) := by
  unfold tipC
  rw [List.getElem?_eq_none (Nat.le_refl _)]
theorem tip_last {p : List (Int × Int)} {ls : List Int} (hW : 0 ≤ (mid p ls p.length).1) (h : tipC p ls p.length = false) : tipC (mv 3 p) ls p.length = false := by
  have e := tipC_end (mv 3 p) ls
  rw [mv_len] at e
  rw [tipC_end, decide_eq_false_iff_not] at h
  rw [e, mid_mv', decide_eq_false_iff_not]
  dsimp only
  omega
theorem tip_none {p : List (Int × Int)} {ls : List Int} (hW : 0 ≤ (mid p ls p.length).1) (h : tipN p ls = none) : tipN (mv 3 p) ls = none := by
  unfold tipN at h ⊢
  rw [Option.map_eq_none_iff, List.find?_eq_none] at h
  rw [mv_len, Option.map_eq_none_iff, List.find?_eq_none]
  intro i hi
  have hi' := List.mem_range.mp hi
  have h1 : tipC p ls (i + 1) = false := by simpa using h i hi
  by_cases hl : i + 1 < p.length
  · rw [tipC_mv _ _ _ hl, h1]
    exact Bool.false_ne_true
  · have e : i + 1 = p.length := by omega
    rw [e] at h1 ⊢
    rw [tip_last hW h1]
    exact Bool.false_ne_true
theorem tip_some {p : List (Int × Int)} {ls : List Int} {k : Nat} (h : tipN p ls = some k) (hk : k ≠ p.length) : tipN (mv 3 p) ls = some k := by
  unfold tipN at h ⊢
  rw [Option.map_eq_some_iff] at h
  obtain ⟨i, h, rfl⟩ := h
  rw [List.find?_range_eq_some] at h
  obtain ⟨a, b, c⟩ := h
  have b := List.mem_range.mp b
  have hl : i + 1 < p.length := by omega
  rw [mv_len, Option.map_eq_some_iff]
  refine ⟨i, List.find?_range_eq_some.mpr ⟨by rw [tipC_mv _ _ _ hl]; exact a, List.mem_range.mpr b, fun j hj => ?_⟩, rfl⟩
  rw [tipC_mv _ _ _ (by omega)]
  exact c j hj
theorem mids_get {p : List (Int × Int)} {ls : List Int} {k j : Nat} (h : j < k) : (mids p ls k)[j]? = some (mid p ls (j + 1)) := by
  unfold mids
  rw [List.getElem?_map, List.getElem?_range h]
  rfl
theorem Rn.lright {Q : Rv → List Sl → Prop} {E : Str → Option D → List Sl → Prop} {n i : Nat} {h : List D} {ρ : List Sl} {p : List (Int × Int)} (hp : PileG p) (hρ : ownSl ρ[i]? = true) (H : HOk h)
    (K : ∀ h', HOk h' → Q (.val (.bl true)) (ρ.set i (reO ρ[i]? h'))) : Rn (P := ⟨Q, E⟩) (callL (lev P (n + 7)) 26 i [.bor (.lst h), .val (.tup (p.map enc))] ρ) := by
  suffices Z : Rn (P := ⟨fun r ss => ∃ h', HOk h' ∧ r = .val (.bl true) ∧ ss = [.bor (.lst h'), .val (.tup (p.map enc))], NoE⟩) (lev P (n + 7) 26 [.bor (.lst h), .val (.tup (p.map enc))]) by
    obtain ⟨r, ss, e, h', b, rfl, rfl⟩ := run_eq Z
    rw [callL_ok rfl hρ rfl e, Rn.ok]
    exact K h' b
  have n0 := hp.ok.n0
  have n1 := hp.ok.n1
  have tt := fun n => s_law_told_of n p (zer p.length) hp.ok.h (zer_ok _) n1
  have tm := fun n => s_law_middles n p (zer p.length) hp.ok.h (zer_ok _) n1
  rw [at__law_is_right, Rn.body]
  rw [m__law_is_right]
  simp_arith [List.length_map, zD, smN p.length (by omega), oM p.length (by omega), tt]
  refine Rn.draw rfl H (by omega) (by omega) fun d h' d0 d1 H => ?_
  obtain ⟨k, rfl⟩ : ∃ k : Nat, d = (k : Int) := ⟨d.toNat, by omega⟩
  have hk : k < p.length := by omega
  obtain ⟨m1, m2, m3⟩ := mid_ok hp.ok.h (zer_ok p.length) n1 (show k + 1 ≤ p.length by omega)
  have ek : (1 : Int) + (k : Int) = ((k + 1 : Nat) : Int) := by omega
  have ek' : ((k + 1 : Nat) : Int) - 1 = (k : Int) := by omega
  simp_arith []
  unfold b__law_is_right_9
  simp_arith [s_stands _ p hp.ok, eqD_self (toldD_nice p (zer p.length)), s_is_pile _ p hp.ok]
  unfold b__law_is_right_8
  rw [ek]
  simp_arith [List.length_map, zD, smN p.length (by omega), oM p.length (by omega), tm, ek', Pyd.atI_nat, List.getElem?_map, mids_get hk, Option.map_some, show enc (mid p (zer p.length) (k + 1)) = .tup [.int (mid p (zer p.length) (k + 1)).1, .int (mid p (zer p.length) (k + 1)).2] from rfl]
  unfold b__law_is_right_7
  simp_arith [okMul_l (show (2 : Int).natAbs < 2 ^ 60 by decide), s_law_low _ (mid p (zer p.length) (k + 1)).2 (2 * (mid p (zer p.length) (k + 1)).1) (by omega) (by omega)]
  unfold b__law_is_right_6
  simp_arith [s_middle_of _ p (k + 1) hp.ok (by omega) (by omega), eqD_self (show (D.lst [fr (low (mid p (zer p.length) (k + 1)).2 (2 * (mid p (zer p.length) (k + 1)).1)), fr (low (mid p (zer p.length) (k + 1)).2 (2 * (mid p (zer p.length) (k + 1)).1))]).nice 64 = true from rfl)]
  unfold b__law_is_right_5
  simp_arith []
  rw [comp_map p enc (fun b => .int (b.2 + b.1)) rfl (by omega) (fun x hx => by
    obtain ⟨l, q⟩ := x
    simp_arith [show enc (l, q) = .tup [.int l, .int q] from rfl, wipeS]
    try simp [wipeS])]
  simp_arith [List.length_map]
  refine ⟨okLen_of (by omega), rfl, ?_⟩
  rw [show maxI (0 :: p.map fun b => b.2 + b.1) = ends p from rfl]
  unfold b__law_is_right_4
  simp_arith [s_overhang _ p hp.ok, eqD_self (show (D.lst [.int (ends p), .int (ends p)]).nice 64 = true from rfl)]
  unfold b__law_is_right_3
  simp_arith []
  rw [comp_map p enc (fun b => .tup [.int b.1, .int (b.2 - 3)]) rfl (by omega) (fun x hx => by
    obtain ⟨l, q⟩ := x
    simp_arith [show enc (l, q) = .tup [.int l, .int q] from rfl, wipeS]
    try simp [wipeS])]
  have ee : (p.map fun b => D.tup [.int b.1, .int (b.2 - 3)]) = (mv 3 p).map enc := by
    unfold mv
    rw [List.map_map]
    rfl
  simp_arith [ee]
  have sm : ∀ n, lev P (n + 6) 12 [.val (.tup ((mv 3 p).map enc))] = .ok (.val (toldD (mv 3 p) (zer p.length))) [.val (.tup ((mv 3 p).map enc))] := fun n => by
    have e := s_stands n (mv 3 p) (mv_ok hp)
    rw [mv_len] at e
    exact e
  obtain ⟨w1, w2, w3⟩ := mid_ok hp.ok.h (zer_ok p.length) n1 (Nat.le_refl p.length)
  unfold b__law_is_right_2
  cases ht : tipN p (zer p.length) with
  | none =>
    have hm := tip_none (by omega) ht
    have e1 : toldD p (zer p.length) = .tup [.str "stands"] := by unfold toldD; rw [ht]
    have e2 : toldD (mv 3 p) (zer p.length) = .tup [.str "stands"] := by unfold toldD; rw [hm]
    rw [e1]
    rw [e2] at sm
    simp_arith [sm, eqD_self (show (D.tup [D.str "stands"]).nice 64 = true by decide +kernel)]
    unfold b__law_is_right_1
    simp_arith [show eqD (.str "stands") (.str "stands") = some true by decide +kernel]
    exact ⟨h', H, rfl⟩
  | some j =>
    have e1 : toldD p (zer p.length) = .tup [.str "tips", .int (j : Int)] := by unfold toldD; rw [ht]
    rw [e1]
    simp_arith [show eqD (.tup [.str "tips", .int (j : Int)]) (.tup [.str "stands"]) = some false by kernel_rfl]
    unfold b__law_is_right_1
    simp_arith [show eqD (.str "tips") (.str "stands") = some false by decide +kernel, List.length_map]
    by_cases hj : j = p.length
    · subst hj
      simp_arith []
      exact ⟨h', H, rfl⟩
    · have hm := tip_some ht hj
      have e2 : toldD (mv 3 p) (zer p.length) = .tup [.str "tips", .int (j : Int)] := by unfold toldD; rw [hm]
      rw [e2] at sm
      have hj' : ¬ (j : Int) = (p.length : Int) := by omega
      simp_arith [hj', sm, eqD_self (show (D.tup [D.str "tips", .int (j : Int)]).nice 64 = true by kernel_rfl)]
      exact ⟨h', H, rfl⟩

end K78
end

section
set_option Elab.async false
set_option linter.all false
set_option maxRecDepth 100000
set_option maxHeartbeats 4000000
namespace K78
open PySem Pyd L2 Pyd.M Pyd.Enc
local macro_rules | `(tactic| simp_arith [$as,*]) => `(tactic| simp only [Pyd.Rn.ok, Pyd.Rn.exc, Pyd.Rn.no, Pyd.Rn.bnd, Pyd.Rn.guard, Pyd.Rn.opt_some, Pyd.Rn.seq, Pyd.Rn.ifM, Pyd.Rn.forM, Pyd.Rn.loopNil, Pyd.Rn.oneC, Pyd.varM_ap, Pyd.varO_val, Pyd.varO_own, Pyd.varO_bor, Pyd.look_val, Pyd.look_own, Pyd.look_var, Pyd.lookO_val, Pyd.lookO_own, Pyd.lookO_bor, Pyd.frz_val, Pyd.frz_own, Pyd.frz_var, Pyd.frzO_val, Pyd.frzO_own, Pyd.toSl_val, Pyd.toSl_own, Pyd.argOf0_val, Pyd.argOf0_own, Pyd.argOf1_val, Pyd.argOf1_own, Pyd.argOf1_var, Pyd.borO_own, Pyd.borO_bor, Pyd.borO_val, Pyd.storeAt_ap, Pyd.stoO_emp, Pyd.stoO_val, Pyd.stoO_own, Pyd.data_lst, Pyd.Rn.ret, Pyd.Rn.toSl_var, Pyd.Rn.argOf0_var, Pyd.Rn.frzs_nil, Pyd.Rn.frzs_cons, Pyd.Rn.looks_nil, Pyd.Rn.looks_cons, Pyd.Rn.toSls_nil, Pyd.Rn.toSls_cons, Pyd.Rn.argsM_nil, Pyd.Rn.argsM_cons, Pyd.Rn.tupM, Pyd.Rn.lstM, Pyd.Rn.lift1, Pyd.Rn.lift2, Pyd.Rn.binM, Pyd.Rn.unM, Pyd.Rn.andM1, Pyd.Rn.andM, Pyd.Rn.orM1, Pyd.Rn.orM, Pyd.Rn.cmp1M, Pyd.Rn.cmp2M, Pyd.Rn.ixM, Pyd.Rn.ifE, Pyd.Rn.partM_none, Pyd.Rn.partM_some, Pyd.Rn.slM, Pyd.Rn.compE, Pyd.Rn.callF, Pyd.Rn.argS_nil, Pyd.Rn.argS_cons, Pyd.Rn.callK0, Pyd.gotO_val, Pyd.gotO_own, Pyd.gotO_exc, Pyd.Rn.biM, Pyd.Rn.tyM, Pyd.Rn.isiM, Pyd.Rn.lstRg, Pyd.Rn.tupRg, Pyd.Rn.chM, Pyd.chVar_ap, Pyd.Rn.chO_own, Pyd.Rn.chO_bor, Pyd.Rn.mtM, Pyd.Rn.lamM, Pyd.Rn.andT1, Pyd.Rn.andT, Pyd.Rn.orT1, Pyd.Rn.orT, Pyd.Rn.notT, Pyd.Rn.rvT, Pyd.Rn.truT, Pyd.Rn.rgM, Pyd.Rn.rg1, Pyd.Rn.rg2, Pyd.Rn.itE, Pyd.Rn.enE, Pyd.Rn.zpE, Pyd.Rn.asgs_nil, Pyd.Rn.asgs_cons, Pyd.Rn.tgT, Pyd.putVar_ap, Pyd.Rn.putO_own, Pyd.Rn.putO_bor, Pyd.Rn.tgS, Pyd.Rn.asgE, Pyd.Rn.parE, Pyd.Rn.exprM, Pyd.Rn.retM, Pyd.raisM_ap, Pyd.augM_ap, Pyd.Rn.augO, Pyd.bin_add, Pyd.bin_addT, Pyd.bin_addL, Pyd.bin_sub, Pyd.bin_mul, Pyd.bin_mulT, Pyd.bin_mulL, Pyd.bin_div, Pyd.bin_mod, Pyd.bin_pow, Pyd.aug_add, Pyd.aug_sub, Pyd.un_neg, Pyd.un_not, Pyd.cmp_eq, Pyd.cmp_ne, Pyd.cmp_lt, Pyd.cmp_le, Pyd.cmp_gt, Pyd.cmp_ge, Pyd.cmp_is, Pyd.cmp_isnot, Pyd.cmp_in, Pyd.cmp_notin, Pyd.is_bl, Pyd.is_nn, Pyd.is_in, Pyd.is_tn, Pyd.tru_bl, Pyd.tru_int, Pyd.tru_tup, Pyd.tru_lst, Pyd.ix_tup, Pyd.ix_lst, Pyd.seq_tup, Pyd.seq_lst, Pyd.bi_len_t, Pyd.bi_len_l, Pyd.bi_all, Pyd.bi_any, Pyd.bi_sum, Pyd.bi_max, Pyd.bi_min, Pyd.bi_max2, Pyd.bi_min2, Pyd.bi_abs, Pyd.ty_int, Pyd.ty_intb, Pyd.ty_bool, Pyd.ty_booli, Pyd.ty_tt, Pyd.ty_tl, Pyd.ty_lt, Pyd.ty_ll, Pyd.isi_int, Pyd.isi_inb, Pyd.isi_tt, Pyd.isi_lt, Pyd.isi_it, Pyd.isi_nt, Pyd.isi_st, Pyd.ch_app, Pyd.ch_ext, Pyd.ch_pop, Pyd.ch_pop0, Pyd.mto_ct, Pyd.mto_cl, Pyd.mto_il, Pyd.alk_t, Pyd.alk_l, Pyd.mt_ct, Pyd.mt_cl, Pyd.mt_il, Pyd.own_own, Pyd.own_bor, Pyd.plain_emp, Pyd.plain_val, Pyd.sl_t, Pyd.sl_l, Pyd.ret_nx, Pyd.ret_val, Pyd.ret_own, Pyd.so_nil, Pyd.so_val, Pyd.so_bor, Pyd.ret_var, Pyd.rtO_own, Pyd.rtO_val, Pyd.Rn.chk, Pyd.Rn.optMap, Pyd.Rn.optBind, List.getElem?_cons_zero, List.getElem?_cons_succ, List.set_cons_zero, List.set_cons_succ, Option.map_some, Option.bind_some, List.length_cons, List.length_nil, List.map_cons, List.map_nil, List.all_cons, List.all_nil, Pyd.wipeS, List.foldr_cons, List.foldr_nil, Bool.and_self, Bool.and_true, Bool.true_and, decide_true, forall_const, true_implies, reduceCtorEq, false_implies, and_true, true_and, Option.some.injEq, exists_eq_left, exists_eq_left', Pyd.Rv.val.injEq, Pyd.D.bl.injEq, Pyd.D.int.injEq, exists_and_left, Nat.reduceAdd, Bool.not_true, Bool.not_false, Bool.not_eq_true', Pyd.blsD, Pyd.enc_int, Pyd.enc_nat, Pyd.enc_bool, Pyd.enc_list, Pyd.enc_pair, Pyd.atI_nat, Pyd.atI_0, Pyd.atI_1, Pyd.atI_2, Pyd.atI_3, Pyd.atI_4, Pyd.rgD_nat, Pyd.eqD_int, Pyd.eqD_bl, Pyd.eqD_non, Pyd.eqD_intN, Pyd.eqD_Nint, Pyd.intsD_int, Pyd.intsD_map, Pyd.blsD_map, Pyd.inD_nat_t, Pyd.inD_nat_l, Pyd.inD_int_t, Pyd.inD_int_l, Pyd.cntD_nat, Pyd.cntD_int, List.getElem?_map, Option.map_map, Pyd.ok0, Pyd.ok1, Pyd.ok2, Pyd.ok3, Pyd.ok4, Pyd.ok5, Pyd.ok6, Pyd.ok7, Pyd.ok8, Pyd.ok9, Pyd.ok10, Pyd.ok11, Pyd.ok12, Pyd.ok13, Pyd.ok14, Pyd.ok15, Pyd.ok16, Pyd.ok17, Pyd.ok18, Pyd.ok19, decide_eq_true_eq, decide_eq_false_iff_not, Int.not_lt, Int.not_le, Int.reduceLT, Int.reduceLE, Int.reduceToNat, Int.reducePow, Nat.reducePow, Nat.reduceLT, Nat.reduceLeDiff, Bool.and_eq_true, Int.reduceEq, Nat.reduceEqDiff, Int.reduceNeg, Int.reduceAdd, Int.reduceSub, Int.reduceMul, Int.reduceNe, Int.lt_irrefl, decide_false, Bool.false_and, Bool.and_false, ne_eq, not_true_eq_false, not_false_eq_true, Pyd.Rn.callK1, Pyd.reO_own, Pyd.reO_bor, List.nil_append, List.cons_append, List.append_nil, Pyd.isD_opt, Pyd.isD_optI, Pyd.eqD_optN, Pyd.eqD_optI, Pyd.isi_strI, Pyd.isi_blI, Pyd.isi_blB, Pyd.isi_nnI, Pyd.isi_ttI, Pyd.isi_llI, Pyd.isi_llL, Pyd.isi_blT, Pyd.eqD_tI, Pyd.eqD_tN, Pyd.eqD_lI, Pyd.eqD_lN, Pyd.zip_enc, Pyd.intsD_enc, Pyd.intsD_encN, Pyd.intsD_cons, Pyd.intsD_nil, Pyd.blsD_enc, Pyd.cN0, Pyd.cN1, Pyd.cN2, Pyd.cN3, Pyd.cN4, Pyd.cN5, Pyd.cN6, Pyd.cN7, Pyd.cN8, Pyd.cN9, Pyd.cN10, Pyd.cN11, Pyd.minO_some, Pyd.cmp_ltT, Pyd.ltT_some, Pyd.Rn.rg3, Pyd.Rn.rgM3, Pyd.Rn.revE, Pyd.rev_t, Pyd.rev_l, Pyd.bi_repr, Pyd.bi_sumT, $as,*])

theorem exc_eq {α : Type} {o : Out α} {c : Str} {x : Option D} {ρ : List Sl} (h : Rn (P := ⟨fun _ _ => False, fun c' x' ρ' => c' = c ∧ x' = x ∧ ρ' = ρ⟩) o) : o = .exc c x ρ := by
  cases o with
  | ok a ρ => rw [Rn.ok] at h; exact h.elim
  | exc c x ρ => rw [Rn.exc] at h; obtain ⟨rfl, rfl, rfl⟩ := h; rfl
  | bad => exact Rn.of_no h
theorem mo_p (n : Nat) {x o : D} (ho : Deep o) (h : x ∈ badP o) (y : D) : lev P (n + 6) 9 [.val x, .val y] = .exc "NoPile" none [.val x, .val y] := by
  simp only [badP, List.mem_cons, List.not_mem_nil, or_false] at h
  rcases h with rfl | rfl | rfl | rfl | rfl | rfl | rfl | rfl | rfl | rfl | rfl | rfl | rfl | rfl | rfl
  · kernel_rfl
  · kernel_rfl
  · kernel_rfl
  · kernel_rfl
  · kernel_rfl
  · kernel_rfl
  · kernel_rfl
  · kernel_rfl
  · kernel_rfl
  · kernel_rfl
  · kernel_rfl
  · kernel_rfl
  · kernel_rfl
  · kernel_rfl
  · rcases ho with _ | _ | _ | ⟨x, ho⟩ | ⟨x, ho⟩
    · kernel_rfl
    · kernel_rfl
    · kernel_rfl
    · rcases ho with _ | _ | _ | ⟨x, ho⟩ | ⟨x, ho⟩ <;> kernel_rfl
    · kernel_rfl
theorem st_p (n : Nat) {x o : D} (ho : Deep o) (h : x ∈ badP o) : lev P (n + 6) 12 [.val x] = .exc "NoPile" none [.val x] := by
  simp only [badP, List.mem_cons, List.not_mem_nil, or_false] at h
  rcases h with rfl | rfl | rfl | rfl | rfl | rfl | rfl | rfl | rfl | rfl | rfl | rfl | rfl | rfl | rfl
  · kernel_rfl
  · kernel_rfl
  · kernel_rfl
  · kernel_rfl
  · kernel_rfl
  · kernel_rfl
  · kernel_rfl
  · kernel_rfl
  · kernel_rfl
  · kernel_rfl
  · kernel_rfl
  · kernel_rfl
  · kernel_rfl
  · kernel_rfl
  · rcases ho with _ | _ | _ | ⟨x, ho⟩ | ⟨x, ho⟩
    · kernel_rfl
    · kernel_rfl
    · kernel_rfl
    · rcases ho with _ | _ | _ | ⟨x, ho⟩ | ⟨x, ho⟩ <;> kernel_rfl
    · kernel_rfl
theorem ov_p (n : Nat) {x o : D} (ho : Deep o) (h : x ∈ badP o) : lev P (n + 6) 13 [.val x] = .exc "NoPile" none [.val x] := by
  simp only [badP, List.mem_cons, List.not_mem_nil, or_false] at h
  rcases h with rfl | rfl | rfl | rfl | rfl | rfl | rfl | rfl | rfl | rfl | rfl | rfl | rfl | rfl | rfl
  · kernel_rfl
  · kernel_rfl
  · kernel_rfl
  · kernel_rfl
  · kernel_rfl
  · kernel_rfl
  · kernel_rfl
  · kernel_rfl
  · kernel_rfl
  · kernel_rfl
  · kernel_rfl
  · kernel_rfl
  · kernel_rfl
  · kernel_rfl
  · rcases ho with _ | _ | _ | ⟨x, ho⟩ | ⟨x, ho⟩
    · kernel_rfl
    · kernel_rfl
    · kernel_rfl
    · rcases ho with _ | _ | _ | ⟨x, ho⟩ | ⟨x, ho⟩ <;> kernel_rfl
    · kernel_rfl
theorem ip_p (n : Nat) {x o : D} (ho : Deep o) (h : x ∈ badP o) : lev P (n + 6) 6 [.val x] = .ok (.val (.bl false)) [.val x] := by
  simp only [badP, List.mem_cons, List.not_mem_nil, or_false] at h
  rcases h with rfl | rfl | rfl | rfl | rfl | rfl | rfl | rfl | rfl | rfl | rfl | rfl | rfl | rfl | rfl
  · kernel_rfl
  · kernel_rfl
  · kernel_rfl
  · kernel_rfl
  · kernel_rfl
  · kernel_rfl
  · kernel_rfl
  · kernel_rfl
  · kernel_rfl
  · kernel_rfl
  · kernel_rfl
  · kernel_rfl
  · kernel_rfl
  · kernel_rfl
  · rcases ho with _ | _ | _ | ⟨x, ho⟩ | ⟨x, ho⟩
    · kernel_rfl
    · kernel_rfl
    · kernel_rfl
    · rcases ho with _ | _ | _ | ⟨x, ho⟩ | ⟨x, ho⟩ <;> kernel_rfl
    · kernel_rfl
def badN (m : Nat) : List D := [.int 0, .int ((m : Int) + 1), .int (-1), .non, .bl true, .str "1"]
theorem wi_n (n m : Nat) {x : D} (h : x ∈ badN m) : lev P (n + 2) 1 [.val x, .val (.int 1), .val (.int (m : Int))] = .ok (.val (.bl false)) [.val x, .val (.int 1), .val (.int (m : Int))] := by
  simp only [badN, List.mem_cons, List.not_mem_nil, or_false] at h
  rcases h with rfl | rfl | rfl | rfl | rfl | rfl
  · rw [s_is_within]; rfl
  · rw [s_is_within, show (decide ((1 : Int) ≤ (m : Int) + 1) && decide ((m : Int) + 1 ≤ (m : Int))) = false by simp; omega]
  · rw [s_is_within]; rfl
  · kernel_rfl
  · kernel_rfl
  · kernel_rfl
theorem mo_n (n : Nat) (p : List (Int × Int)) (hp : PileOk p) {x : D} (h : x ∈ badN p.length) : lev P (n + 6) 9 [.val (.tup (p.map enc)), .val x] = .exc "NoNumber" none [.val (.tup (p.map enc)), .val x] := by
  rw [at_middle_of]; apply exc_eq; rw [Rn.body]; unfold m_middle_of b_middle_of_2 b_middle_of_1; simp_arith [s_check_pile _ p hp, List.length_map, wi_n _ _ h]
theorem w1_pile : word0.exc "NoPile" none = some (.str "pile") := rfl
theorem w1_number : word0.exc "NoNumber" none = some (.str "number") := rfl
theorem k1 (n : Nat) : lev P (n + 8) 12 [.val (.tup [.tup [.int 2, .int (-1)]])] = .ok (.val (.tup [.str "stands"])) [.val (.tup [.tup [.int 2, .int (-1)]])] := by kernel_rfl
theorem k2 (n : Nat) : lev P (n + 8) 12 [.val (.tup [.tup [.int 2, .int 0]])] = .ok (.val (.tup [.str "tips", .int 1])) [.val (.tup [.tup [.int 2, .int 0]])] := by kernel_rfl
theorem k3 (n : Nat) : lev P (n + 8) 13 [.val (.tup [.tup [.int 2, .int (-1)]])] = .ok (.val (.int 1)) [.val (.tup [.tup [.int 2, .int (-1)]])] := by kernel_rfl
theorem k4 (n : Nat) : lev P (n + 8) 12 [.val (.tup [.tup [.int 2, .int (-1)], .tup [.int 2, .int (-2)], .tup [.int 2, .int (-2)]])] = .ok (.val (.tup [.str "stands"])) [.val (.tup [.tup [.int 2, .int (-1)], .tup [.int 2, .int (-2)], .tup [.int 2, .int (-2)]])] := by kernel_rfl
theorem k5 (n : Nat) : lev P (n + 8) 9 [.val (.tup [.tup [.int 2, .int 0], .tup [.int 4, .int (-3)]]), .val (.int 2)] = .ok (.val (.tup [.int (-1), .int 3])) [.val (.tup [.tup [.int 2, .int 0], .tup [.int 4, .int (-3)]]), .val (.int 2)] := by kernel_rfl
def mk (ns : List Int) (h : List D) : List Sl → List Sl
  | [s2, s3, s4, s5, s6] => [.val (.scr ns), .own (.lst h), s2, s3, s4, s5, s6]
  | _ => []
def ItQ (ns : List Int) (fl : Pyd.Flow) (ρ : List Sl) : Prop := fl = .nx ∧ ∃ h r, ρ = mk ns h r ∧ HOk h ∧ FreL r 5
theorem segA {n : Nat} {ns : List Int} {h : List D} {s2 s3 s4 s5 s6 : Sl} (H : HOk h) (F : FreL [s2, s3, s4, s5, s6] 5) :
    Rn (P := ⟨ItQ ns, NoE⟩) (b_law_9 (lev P (n + 8)) [.val (.scr ns), .own (.lst h), s2, s3, s4, s5, s6]) := by
  obtain ⟨_, F⟩ := F
  simp only [List.mem_cons, List.not_mem_nil, or_false, forall_eq_or_imp, forall_eq] at F
  obtain ⟨F2, F3, F4, F5, F6⟩ := F
  unfold b_law_9
  simp_arith []
  refine Rn.lpile (by decide) (by decide) rfl H fun q h' hq H => ?_
  simp_arith []
  refine Rn.lright hq rfl H fun h' H => ?_
  simp_arith []
  unfold b_law_8
  simp_arith []
  refine Rn.lstand (by decide) (by decide) rfl H fun p h' hp H => ?_
  simp_arith [F3 _ _ _]
  unfold b_law_7
  have e1 : toldD p (zer p.length) = .tup [.str "stands"] := by unfold toldD; rw [hp.st]
  have sm := fun n => s_stands n p hp.g.ok
  rw [e1] at sm
  simp_arith [sm, eqD_self (show (D.tup [.str "stands"]).nice 64 = true by decide +kernel)]
  refine Rn.lright hp.g rfl H fun h' H => ?_
  simp_arith []
  unfold b_law_6
  simp_arith []
  refine Rn.lnop rfl H fun x o h' O hx H => ?_
  simp_arith [List.length_map]
  refine Rn.any rfl H (by simp) (by simp) fun xb h' hb H => ?_
  have hb : xb ∈ badN p.length := hb
  simp_arith [F4 _ _ _, F5 _ _ _]
  unfold b_law_5
  simp_arith [mo_p _ O hx, w1_pile, mo_n _ p hp.g.ok hb, w1_number, F6 _ _ _]
  unfold b_law_4
  simp_arith [st_p _ O hx, w1_pile, ltLine (show (2 : Nat) ≤ 1000000 by decide)]
  unfold b_law_3
  simp_arith [ov_p _ O hx, w1_pile, ltLine (show (3 : Nat) ≤ 1000000 by decide)]
  unfold b_law_2
  simp_arith [eqD_self (show (D.lst [D.str "pile", D.str "number", D.str "pile", D.str "pile"]).nice 64 = true by decide +kernel), ip_p _ O hx]
  exact ⟨rfl, h', [s2, _, _, _, _], rfl, H, rfl, by simp [F2, Fre.val, Fre.own]⟩
theorem law_ok (n : Nat) (ns : List Int) (hn : ns.length ≤ 63) : ∃ ss, lev P (n + 9) 27 [.val (.scr ns)] = .ok (.val (.bl true)) ss := by
  suffices Z : Rn (P := ⟨fun r ss => r = .val (.bl true), NoE⟩) (lev P (n + 9) 27 [.val (.scr ns)]) by
    obtain ⟨r, ss, e, rfl⟩ := run_eq Z
    exact ⟨ss, e⟩
  obtain ⟨h, H, eh⟩ := s_law_hand (n + 7) ns hn
  rw [at_law, Rn.body]
  unfold m_law
  simp_arith [eh]
  unfold b_law_12
  simp_arith [k1, k2, k3, eqD_self (show (D.tup [.str "stands"]).nice 64 = true by decide +kernel), eqD_self (show (D.tup [.str "tips", .int 1]).nice 64 = true by decide +kernel)]
  unfold b_law_11
  simp_arith [k4, k5, eqD_self (show (D.tup [.str "stands"]).nice 64 = true by decide +kernel), eqD_self (show (D.tup [.int (-1), .int 3]).nice 64 = true by decide +kernel)]
  unfold b_law_10
  simp_arith [show okRg 0 8 = true from okRg_int (by decide) (by decide), rgD_0]
  refine loop_list enc (fun s : List D × List Sl => mk ns s.1 s.2) (fun _ s => HOk s.1 ∧ FreL s.2 5) (List.range 8) (h, List.replicate 5 .emp) ⟨H, rfl, fun s hs => by rw [List.eq_of_mem_replicate hs]; exact .emp⟩ ?_ ?_
  · rintro lap rest ⟨h, r⟩ ⟨H, hl, hF⟩
    match r, hl, hF with
    | [s2, s3, s4, s5, s6], _, hF =>
    have F2 : Fre s2 := hF s2 (by simp)
    unfold mk
    simp_arith [F2 _ _ _]
    refine (segA (ns := ns) H ⟨rfl, ?_⟩).mono ?_ (fun _ _ _ z => z.elim)
    · intro s hs
      rcases List.mem_cons.mp hs with rfl | hs
      · exact .val
      · exact hF s (List.mem_cons_of_mem _ hs)
    · rintro fl ρ ⟨rfl, h, r, rfl, H, F⟩
      exact ⟨(h, r), rfl, H, F⟩
  · rintro ⟨h, r⟩ ⟨H, hl, hF⟩
    match r, hl, hF with
    | [s2, s3, s4, s5, s6], _, hF =>
    unfold mk
    simp_arith []
    unfold b_law_1
    simp_arith []

end K78
end

section
set_option Elab.async false
set_option linter.all false
set_option maxRecDepth 100000
set_option maxHeartbeats 4000000
namespace K78
open PySem PySem.Spec Pyd L2
open PyProof.Rows hiding St
def kLaw : Nat := 27
theorem sc_is_integer : FnScope ["thing"] ["thing"] (defScope (top 1)) := ⟨rfl, rfl, rfl, by decide +kernel, rfl, by decide +kernel, by decide +kernel⟩
theorem bi_is_integer {K : PySem.W.Frag} {kV doc pm cdv ct : Value} {an : Option Addr} : Binds K (PySem.W.fnOf "is_integer" "is_integer" (defArgs (top 1)) (defBody (top 1)) (defScope (top 1)) .none kV doc pm an cdv ct) ["thing"] [] := Binds.all fun us hl => match us, hl with | [_], _ => rfl
theorem sc_is_within : FnScope ["thing", "low", "high"] ["thing", "low", "high"] (defScope (top 2)) := ⟨rfl, rfl, rfl, by decide +kernel, rfl, by decide +kernel, by decide +kernel⟩
theorem bi_is_within {K : PySem.W.Frag} {kV doc pm cdv ct : Value} {an : Option Addr} : Binds K (PySem.W.fnOf "is_within" "is_within" (defArgs (top 2)) (defBody (top 2)) (defScope (top 2)) .none kV doc pm an cdv ct) ["thing", "low", "high"] [] := Binds.all fun us hl => match us, hl with | [_, _, _], _ => rfl
theorem sc_is_sized : FnScope ["thing", "low", "high"] ["thing", "low", "high"] (defScope (top 3)) := ⟨rfl, rfl, rfl, by decide +kernel, rfl, by decide +kernel, by decide +kernel⟩
theorem bi_is_sized {K : PySem.W.Frag} {kV doc pm cdv ct : Value} {an : Option Addr} : Binds K (PySem.W.fnOf "is_sized" "is_sized" (defArgs (top 3)) (defBody (top 3)) (defScope (top 3)) .none kV doc pm an cdv ct) ["thing", "low", "high"] [] := Binds.all fun us hl => match us, hl with | [_, _, _], _ => rfl
theorem sc_common : FnScope ["one", "other"] ["one", "other"] (defScope (top 10)) := ⟨rfl, rfl, rfl, by decide +kernel, rfl, by decide +kernel, by decide +kernel⟩
theorem bi_common {K : PySem.W.Frag} {kV doc pm cdv ct : Value} {an : Option Addr} : Binds K (PySem.W.fnOf "common" "common" (defArgs (top 10)) (defBody (top 10)) (defScope (top 10)) .none kV doc pm an cdv ct) ["one", "other"] [] := Binds.all fun us hl => match us, hl with | [_, _], _ => rfl
theorem sc_share : FnScope ["top", "bottom", "divisor"] ["top", "bottom"] (defScope (top 11)) := ⟨rfl, rfl, rfl, by decide +kernel, rfl, by decide +kernel, by decide +kernel⟩
theorem bi_share {K : PySem.W.Frag} {kV doc pm cdv ct : Value} {an : Option Addr} : Binds K (PySem.W.fnOf "share" "share" (defArgs (top 11)) (defBody (top 11)) (defScope (top 11)) .none kV doc pm an cdv ct) ["top", "bottom"] [] := Binds.all fun us hl => match us, hl with | [_, _], _ => rfl
theorem sc_is_less : FnScope ["one", "other"] ["one", "other"] (defScope (top 12)) := ⟨rfl, rfl, rfl, by decide +kernel, rfl, by decide +kernel, by decide +kernel⟩
theorem bi_is_less {K : PySem.W.Frag} {kV doc pm cdv ct : Value} {an : Option Addr} : Binds K (PySem.W.fnOf "is_less" "is_less" (defArgs (top 12)) (defBody (top 12)) (defScope (top 12)) .none kV doc pm an cdv ct) ["one", "other"] [] := Binds.all fun us hl => match us, hl with | [_, _], _ => rfl
theorem sc_is_pile : FnScope ["thing", "brick", "a", "b"] ["thing"] (defScope (top 19)) := ⟨rfl, rfl, rfl, by decide +kernel, rfl, by decide +kernel, by decide +kernel⟩
theorem bi_is_pile {K : PySem.W.Frag} {kV doc pm cdv ct : Value} {an : Option Addr} : Binds K (PySem.W.fnOf "is_pile" "is_pile" (defArgs (top 19)) (defBody (top 19)) (defScope (top 19)) .none kV doc pm an cdv ct) ["thing"] [] := Binds.all fun us hl => match us, hl with | [_], _ => rfl
theorem sc_check_pile : FnScope ["pile"] ["pile"] (defScope (top 20)) := ⟨rfl, rfl, rfl, by decide +kernel, rfl, by decide +kernel, by decide +kernel⟩
theorem bi_check_pile {K : PySem.W.Frag} {kV doc pm cdv ct : Value} {an : Option Addr} : Binds K (PySem.W.fnOf "check_pile" "check_pile" (defArgs (top 20)) (defBody (top 20)) (defScope (top 20)) .none kV doc pm an cdv ct) ["pile"] [] := Binds.all fun us hl => match us, hl with | [_], _ => rfl
theorem sc_raw_middle : FnScope ["pile", "many", "loads", "weight", "moment", "length", "place", "load"] ["pile", "many", "loads"] (defScope (top 21)) := ⟨rfl, rfl, rfl, by decide +kernel, rfl, by decide +kernel, by decide +kernel⟩
theorem bi_raw_middle {K : PySem.W.Frag} {kV doc pm cdv ct : Value} {an : Option Addr} : Binds K (PySem.W.fnOf "raw_middle" "raw_middle" (defArgs (top 21)) (defBody (top 21)) (defScope (top 21)) .none kV doc pm an cdv ct) ["pile", "many", "loads"] [] := Binds.all fun us hl => match us, hl with | [_, _, _], _ => rfl
theorem sc_middle_of : FnScope ["pile", "many"] ["pile", "many"] (defScope (top 22)) := ⟨rfl, rfl, rfl, by decide +kernel, rfl, by decide +kernel, by decide +kernel⟩
theorem bi_middle_of {K : PySem.W.Frag} {kV doc pm cdv ct : Value} {an : Option Addr} : Binds K (PySem.W.fnOf "middle_of" "middle_of" (defArgs (top 22)) (defBody (top 22)) (defScope (top 22)) .none kV doc pm an cdv ct) ["pile", "many"] [] := Binds.all fun us hl => match us, hl with | [_, _], _ => rfl
theorem sc_tips_at : FnScope ["pile", "loads", "many", "middle", "length", "place"] ["pile", "loads"] (defScope (top 23)) := ⟨rfl, rfl, rfl, by decide +kernel, rfl, by decide +kernel, by decide +kernel⟩
theorem bi_tips_at {K : PySem.W.Frag} {kV doc pm cdv ct : Value} {an : Option Addr} : Binds K (PySem.W.fnOf "tips_at" "tips_at" (defArgs (top 23)) (defBody (top 23)) (defScope (top 23)) .none kV doc pm an cdv ct) ["pile", "loads"] [] := Binds.all fun us hl => match us, hl with | [_, _], _ => rfl
theorem sc_told : FnScope ["pile", "loads", "many"] ["pile", "loads"] (defScope (top 24)) := ⟨rfl, rfl, rfl, by decide +kernel, rfl, by decide +kernel, by decide +kernel⟩
theorem bi_told {K : PySem.W.Frag} {kV doc pm cdv ct : Value} {an : Option Addr} : Binds K (PySem.W.fnOf "told" "told" (defArgs (top 24)) (defBody (top 24)) (defScope (top 24)) .none kV doc pm an cdv ct) ["pile", "loads"] [] := Binds.all fun us hl => match us, hl with | [_, _], _ => rfl
theorem sc_stands : FnScope ["pile"] ["pile"] (defScope (top 25)) := ⟨rfl, rfl, rfl, by decide +kernel, rfl, by decide +kernel, by decide +kernel⟩
theorem bi_stands {K : PySem.W.Frag} {kV doc pm cdv ct : Value} {an : Option Addr} : Binds K (PySem.W.fnOf "stands" "stands" (defArgs (top 25)) (defBody (top 25)) (defScope (top 25)) .none kV doc pm an cdv ct) ["pile"] [] := Binds.all fun us hl => match us, hl with | [_], _ => rfl
theorem sc_overhang : FnScope ["pile", "length", "place"] ["pile"] (defScope (top 26)) := ⟨rfl, rfl, rfl, by decide +kernel, rfl, by decide +kernel, by decide +kernel⟩
theorem bi_overhang {K : PySem.W.Frag} {kV doc pm cdv ct : Value} {an : Option Addr} : Binds K (PySem.W.fnOf "overhang" "overhang" (defArgs (top 26)) (defBody (top 26)) (defScope (top 26)) .none kV doc pm an cdv ct) ["pile"] [] := Binds.all fun us hl => match us, hl with | [_], _ => rfl
theorem sc__law_hand : FnScope ["script", "cells", "cell"] ["script"] (defScope (top 28)) := ⟨rfl, rfl, rfl, by decide +kernel, rfl, by decide +kernel, by decide +kernel⟩
theorem bi__law_hand {K : PySem.W.Frag} {kV doc pm cdv ct : Value} {an : Option Addr} : Binds K (PySem.W.fnOf "_law_hand" "_law_hand" (defArgs (top 28)) (defBody (top 28)) (defScope (top 28)) .none kV doc pm an cdv ct) ["script"] [] := Binds.all fun us hl => match us, hl with | [_], _ => rfl
theorem sc__law_draw : FnScope ["hand", "many", "cell", "digit", "number"] ["hand", "many"] (defScope (top 29)) := ⟨rfl, rfl, rfl, by decide +kernel, rfl, by decide +kernel, by decide +kernel⟩
theorem bi__law_draw {K : PySem.W.Frag} {kV doc pm cdv ct : Value} {an : Option Addr} : Binds K (PySem.W.fnOf "_law_draw" "_law_draw" (defArgs (top 29)) (defBody (top 29)) (defScope (top 29)) .none kV doc pm an cdv ct) ["hand", "many"] [] := Binds.all fun us hl => match us, hl with | [_, _], _ => rfl
theorem sc__law_any : FnScope ["hand", "some"] ["hand", "some"] (defScope (top 30)) := ⟨rfl, rfl, rfl, by decide +kernel, rfl, by decide +kernel, by decide +kernel⟩
theorem bi__law_any {K : PySem.W.Frag} {kV doc pm cdv ct : Value} {an : Option Addr} : Binds K (PySem.W.fnOf "_law_any" "_law_any" (defArgs (top 30)) (defBody (top 30)) (defScope (top 30)) .none kV doc pm an cdv ct) ["hand", "some"] [] := Binds.all fun us hl => match us, hl with | [_, _], _ => rfl
theorem sc__law_low : FnScope ["top", "bottom", "a", "b"] ["top", "bottom"] (defScope (top 31)) := ⟨rfl, rfl, rfl, by decide +kernel, rfl, by decide +kernel, by decide +kernel⟩
theorem bi__law_low {K : PySem.W.Frag} {kV doc pm cdv ct : Value} {an : Option Addr} : Binds K (PySem.W.fnOf "_law_low" "_law_low" (defArgs (top 31)) (defBody (top 31)) (defScope (top 31)) .none kV doc pm an cdv ct) ["top", "bottom"] [] := Binds.all fun us hl => match us, hl with | [_, _], _ => rfl
theorem sc__law_deep : FnScope ["hand", "deep", "lap"] ["hand"] (defScope (top 32)) := ⟨rfl, rfl, rfl, by decide +kernel, rfl, by decide +kernel, by decide +kernel⟩
theorem bi__law_deep {K : PySem.W.Frag} {kV doc pm cdv ct : Value} {an : Option Addr} : Binds K (PySem.W.fnOf "_law_deep" "_law_deep" (defArgs (top 32)) (defBody (top 32)) (defScope (top 32)) .none kV doc pm an cdv ct) ["hand"] [] := Binds.all fun us hl => match us, hl with | [_], _ => rfl
theorem sc__law_pile : FnScope ["hand", "most", "found", "here", "brick", "length"] ["hand", "most"] (defScope (top 33)) := ⟨rfl, rfl, rfl, by decide +kernel, rfl, by decide +kernel, by decide +kernel⟩
theorem bi__law_pile {K : PySem.W.Frag} {kV doc pm cdv ct : Value} {an : Option Addr} : Binds K (PySem.W.fnOf "_law_pile" "_law_pile" (defArgs (top 33)) (defBody (top 33)) (defScope (top 33)) .none kV doc pm an cdv ct) ["hand", "most"] [] := Binds.all fun us hl => match us, hl with | [_, _], _ => rfl
theorem sc__law_middles : FnScope ["pile", "extra", "found", "weight", "whole", "at", "length", "place"] ["pile", "extra"] (defScope (top 34)) := ⟨rfl, rfl, rfl, by decide +kernel, rfl, by decide +kernel, by decide +kernel⟩
theorem bi__law_middles {K : PySem.W.Frag} {kV doc pm cdv ct : Value} {an : Option Addr} : Binds K (PySem.W.fnOf "_law_middles" "_law_middles" (defArgs (top 34)) (defBody (top 34)) (defScope (top 34)) .none kV doc pm an cdv ct) ["pile", "extra"] [] := Binds.all fun us hl => match us, hl with | [_, _], _ => rfl
theorem sc__law_tipping : FnScope ["pile", "extra", "at", "weight", "whole", "length", "place"] ["pile", "extra"] (defScope (top 35)) := ⟨rfl, rfl, rfl, by decide +kernel, rfl, by decide +kernel, by decide +kernel⟩
theorem bi__law_tipping {K : PySem.W.Frag} {kV doc pm cdv ct : Value} {an : Option Addr} : Binds K (PySem.W.fnOf "_law_tipping" "_law_tipping" (defArgs (top 35)) (defBody (top 35)) (defScope (top 35)) .none kV doc pm an cdv ct) ["pile", "extra"] [] := Binds.all fun us hl => match us, hl with | [_, _], _ => rfl
theorem sc__law_is_over : FnScope ["low", "length", "weight", "whole"] ["low", "length", "weight", "whole"] (defScope (top 36)) := ⟨rfl, rfl, rfl, by decide +kernel, rfl, by decide +kernel, by decide +kernel⟩
theorem bi__law_is_over {K : PySem.W.Frag} {kV doc pm cdv ct : Value} {an : Option Addr} : Binds K (PySem.W.fnOf "_law_is_over" "_law_is_over" (defArgs (top 36)) (defBody (top 36)) (defScope (top 36)) .none kV doc pm an cdv ct) ["low", "length", "weight", "whole"] [] := Binds.all fun us hl => match us, hl with | [_, _, _, _], _ => rfl
theorem sc__law_standing : FnScope ["hand", "most", "lengths", "brick", "pile", "weight", "whole", "length", "low", "middle", "tries", "one", "back", "place"] ["hand", "most"] (defScope (top 37)) := ⟨rfl, rfl, rfl, by decide +kernel, rfl, by decide +kernel, by decide +kernel⟩
theorem bi__law_standing {K : PySem.W.Frag} {kV doc pm cdv ct : Value} {an : Option Addr} : Binds K (PySem.W.fnOf "_law_standing" "_law_standing" (defArgs (top 37)) (defBody (top 37)) (defScope (top 37)) .none kV doc pm an cdv ct) ["hand", "most"] [] := Binds.all fun us hl => match us, hl with | [_, _], _ => rfl
theorem sc__law_told_of : FnScope ["pile", "extra", "many"] ["pile", "extra"] (defScope (top 38)) := ⟨rfl, rfl, rfl, by decide +kernel, rfl, by decide +kernel, by decide +kernel⟩
theorem bi__law_told_of {K : PySem.W.Frag} {kV doc pm cdv ct : Value} {an : Option Addr} : Binds K (PySem.W.fnOf "_law_told_of" "_law_told_of" (defArgs (top 38)) (defBody (top 38)) (defScope (top 38)) .none kV doc pm an cdv ct) ["pile", "extra"] [] := Binds.all fun us hl => match us, hl with | [_, _], _ => rfl
theorem sc__law_no_pile : FnScope ["hand", "some"] ["hand"] (defScope (top 39)) := ⟨rfl, rfl, rfl, by decide +kernel, rfl, by decide +kernel, by decide +kernel⟩
theorem bi__law_no_pile {K : PySem.W.Frag} {kV doc pm cdv ct : Value} {an : Option Addr} : Binds K (PySem.W.fnOf "_law_no_pile" "_law_no_pile" (defArgs (top 39)) (defBody (top 39)) (defScope (top 39)) .none kV doc pm an cdv ct) ["hand"] [] := Binds.all fun us hl => match us, hl with | [_], _ => rfl
theorem sc__law_is_right : FnScope ["hand", "pile", "due", "many", "weight", "whole", "middle", "reach", "length", "place", "moved"] ["hand", "pile"] (defScope (top 41)) := ⟨rfl, rfl, rfl, by decide +kernel, rfl, by decide +kernel, by decide +kernel⟩
theorem bi__law_is_right {K : PySem.W.Frag} {kV doc pm cdv ct : Value} {an : Option Addr} : Binds K (PySem.W.fnOf "_law_is_right" "_law_is_right" (defArgs (top 41)) (defBody (top 41)) (defScope (top 41)) .none kV doc pm an cdv ct) ["hand", "pile"] [] := Binds.all fun us hl => match us, hl with | [_, _], _ => rfl
theorem sc_law : FnScope ["script", "hand", "lap", "pile", "none", "bad", "words"] ["script"] (defScope (top 42)) := ⟨rfl, rfl, rfl, by decide +kernel, rfl, by decide +kernel, by decide +kernel⟩
theorem bi_law {K : PySem.W.Frag} {kV doc pm cdv ct : Value} {an : Option Addr} : Binds K (PySem.W.fnOf "law" "law" (defArgs (top 42)) (defBody (top 42)) (defScope (top 42)) .none kV doc pm an cdv ct) ["script"] [] := Binds.all fun us hl => match us, hl with | [_], _ => rfl
def wN : List Str := ["call", "e", "flags"]
def word_w : WordT := ((wordT (defBody (top 40))).getD ⟨"", "", none, [], []⟩)
theorem word_e : wordT (defBody (top 40)) = some word_w := by kernel_rfl
theorem word_cls : word_w.cl.map (·.1) = (["WeighError"] : List Str) := by kernel_rfl
theorem sc_word : FnScope wN ["call"] (defScope (top 40)) := ⟨rfl, rfl, rfl, by decide +kernel, rfl, by decide +kernel, by decide +kernel⟩
theorem bi_word {K : PySem.W.Frag} {kV doc pm cdv ct : Value} {an : Option Addr} : Binds K (PySem.W.fnOf "_law_said" "_law_said" (defArgs (top 40)) (defBody (top 40)) (defScope (top 40)) .none kV doc pm an cdv ct) ["call"] [] := Binds.all fun us hl => match us, hl with | [_], _ => rfl
def flT : List (Str × List (Str × Gb)) := [("NoNumber", [("isinstance", .bi "isinstance"), ("NoNumber", .flag true), ("NoPile", .flag false), ("ValueError", .flag true)]),
  ("NoPile", [("isinstance", .bi "isinstance"), ("NoNumber", .flag false), ("NoPile", .flag true), ("ValueError", .flag true)])]
def glW (c y : Str) : Option Gb := ((flT.lookup c).getD []).lookup y
def mtT : List (Str × Str × Bool) := [("NoNumber", "WeighError", true), ("NoPile", "WeighError", true)]
def mtW (c x : Str) : Bool := ((mtT.filter fun t => t.1 == c && t.2.1 == x).headD ("", "", false)).2.2
theorem word_ok : runOk (wCfg wN (defScope (top 40)) fun _ => none) (defScope (top 40)) word_w.pre word_w.post wN.length 0 = some word0.ok := by kernel_rfl
theorem word_NoNumber : ∃ su, pickC (mtW "NoNumber") word_w.cl = some su ∧ runExc (wCfg wN (defScope (top 40)) (glW "NoNumber")) (wCfg wN (defScope (top 40)) fun _ => none) (defScope (top 40)) su word_w.post 1 wN.length = some (.str "number") := ⟨((pickC (mtW "NoNumber") word_w.cl).getD []), by kernel_rfl, by kernel_rfl⟩
theorem word_NoPile : ∃ su, pickC (mtW "NoPile") word_w.cl = some su ∧ runExc (wCfg wN (defScope (top 40)) (glW "NoPile")) (wCfg wN (defScope (top 40)) fun _ => none) (defScope (top 40)) su word_w.post 1 wN.length = some (.str "pile") := ⟨((pickC (mtW "NoPile") word_w.cl).getD []), by kernel_rfl, by kernel_rfl⟩
theorem law_at (plain : ∀ ns : List Int, ns.length ≤ 63 → (∀ z ∈ ns, Builtin.Int.intBits z ≤ 1048576) → ∃ ss, lev P 12 kLaw [.val (.scr ns)] = .ok (.val (.bl true)) ss) {w : World} {K : PySem.W.Frag} {h : Heap} {mg : Str → Option Value} {fa : Addr} {a0 : Addr} {od0 an0 : Option Addr} {sl0 : Array (Option Value)} {oc0 kV0 dc0 pm0 ct0 : Value} {cd0 : Value} {a1 : Addr} {od1 an1 : Option Addr} {sl1 : Array (Option Value)} {oc1 kV1 dc1 pm1 ct1 : Value} {cd1 : Value} {a2 : Addr} {od2 an2 : Option Addr} {sl2 : Array (Option Value)} {oc2 kV2 dc2 pm2 ct2 : Value} {cd2 : Value} {a3 : Addr} {od3 an3 : Option Addr} {sl3 : Array (Option Value)} {oc3 kV3 dc3 pm3 ct3 : Value} {cd3 : Value} {a4 : Addr} {od4 an4 : Option Addr} {sl4 : Array (Option Value)} {oc4 kV4 dc4 pm4 ct4 : Value} {cd4 : Value} {a5 : Addr} {od5 an5 : Option Addr} {sl5 : Array (Option Value)} {oc5 kV5 dc5 pm5 ct5 : Value} {cd5 : Value} {a6 : Addr} {od6 an6 : Option Addr} {sl6 : Array (Option Value)} {oc6 kV6 dc6 pm6 ct6 : Value} {cd6 : Value} {a7 : Addr} {od7 an7 : Option Addr} {sl7 : Array (Option Value)} {oc7 kV7 dc7 pm7 ct7 : Value} {cd7 : Value} {a8 : Addr} {od8 an8 : Option Addr} {sl8 : Array (Option Value)} {oc8 kV8 dc8 pm8 ct8 : Value} {cd8 : Value} {a9 : Addr} {od9 an9 : Option Addr} {sl9 : Array (Option Value)} {oc9 kV9 dc9 pm9 ct9 : Value} {cd9 : Value} {a10 : Addr} {od10 an10 : Option Addr} {sl10 : Array (Option Value)} {oc10 kV10 dc10 pm10 ct10 : Value} {cd10 : Value} {a11 : Addr} {od11 an11 : Option Addr} {sl11 : Array (Option Value)} {oc11 kV11 dc11 pm11 ct11 : Value} {cd11 : Value} {a12 : Addr} {od12 an12 : Option Addr} {sl12 : Array (Option Value)} {oc12 kV12 dc12 pm12 ct12 : Value} {cd12 : Value} {a13 : Addr} {od13 an13 : Option Addr} {sl13 : Array (Option Value)} {oc13 kV13 dc13 pm13 ct13 : Value} {cd13 : Value} {a14 : Addr} {od14 an14 : Option Addr} {sl14 : Array (Option Value)} {oc14 kV14 dc14 pm14 ct14 : Value} {cd14 : Value} {a15 : Addr} {od15 an15 : Option Addr} {sl15 : Array (Option Value)} {oc15 kV15 dc15 pm15 ct15 : Value} {cd15 : Value} {a16 : Addr} {od16 an16 : Option Addr} {sl16 : Array (Option Value)} {oc16 kV16 dc16 pm16 ct16 : Value} {cd16 : Value} {a17 : Addr} {od17 an17 : Option Addr} {sl17 : Array (Option Value)} {oc17 kV17 dc17 pm17 ct17 : Value} {cd17 : Value} {a18 : Addr} {od18 an18 : Option Addr} {sl18 : Array (Option Value)} {oc18 kV18 dc18 pm18 ct18 : Value} {cd18 : Value} {a19 : Addr} {od19 an19 : Option Addr} {sl19 : Array (Option Value)} {oc19 kV19 dc19 pm19 ct19 : Value} {cd19 : Value} {a20 : Addr} {od20 an20 : Option Addr} {sl20 : Array (Option Value)} {oc20 kV20 dc20 pm20 ct20 : Value} {cd20 : Value} {a21 : Addr} {od21 an21 : Option Addr} {sl21 : Array (Option Value)} {oc21 kV21 dc21 pm21 ct21 : Value} {cd21 : Value} {a22 : Addr} {od22 an22 : Option Addr} {sl22 : Array (Option Value)} {oc22 kV22 dc22 pm22 ct22 : Value} {cd22 : Value} {a23 : Addr} {od23 an23 : Option Addr} {sl23 : Array (Option Value)} {oc23 kV23 dc23 pm23 ct23 : Value} {cd23 : Value} {a24 : Addr} {od24 an24 : Option Addr} {sl24 : Array (Option Value)} {oc24 kV24 dc24 pm24 ct24 : Value} {cd24 : Value} {a25 : Addr} {od25 an25 : Option Addr} {sl25 : Array (Option Value)} {oc25 kV25 dc25 pm25 ct25 : Value} {cd25 : Value} {a26 : Addr} {od26 an26 : Option Addr} {sl26 : Array (Option Value)} {oc26 kV26 dc26 pm26 ct26 : Value} {cd26 : Value} {a27 : Addr} {od27 an27 : Option Addr} {sl27 : Array (Option Value)} {oc27 kV27 dc27 pm27 ct27 : Value} {cL27 Pt27 : Addr} {eL27 : Value} {dL27 : Option Addr} {vL27 : Array Value} {sL27 : Array (Option Value)} {aw : Addr} {odw anw : Option Addr} {slw : Array (Option Value)} {ocw kVw dcw pmw cdw ctw : Value} {CWeighError : Addr} {CNoNumber : Addr} {CNoPile : Addr} {tZERO : Addr} {cZERO : Nat} {xZERO : Array (Option Value)} {uZERO0 uZERO1 : Tok} {tMOST_BRICKS : Tok} {tMOST_LENGTH : Tok} {tMOST_PLACE : Tok} {tSTANDS : Tok} {tTIPS : Tok} (X : K.In h) (G : h.Ns mainGlobals mg) (hfa : mg "law" = some (.ref fa)) (own : LamX.OwnTab K fa h)
    (n0 : PySem.W.nsIn K mainGlobals "is_integer" = some (some (.ref a0)))
    (l0 : K.lookup a0 = some ⟨oc0, od0, .func (PySem.W.fnOf "is_integer" "is_integer" (defArgs (top 1)) (defBody (top 1)) (defScope (top 1)) .none kV0 dc0 pm0 an0 cd0 ct0), sl0⟩)
    (c0 : PySem.W.codeIn K cd0 "is_integer" = true)
    (k0 : PySem.W.keepIn K (.ref a0) = true)
    (n1 : PySem.W.nsIn K mainGlobals "is_within" = some (some (.ref a1)))
    (l1 : K.lookup a1 = some ⟨oc1, od1, .func (PySem.W.fnOf "is_within" "is_within" (defArgs (top 2)) (defBody (top 2)) (defScope (top 2)) .none kV1 dc1 pm1 an1 cd1 ct1), sl1⟩)
    (c1 : PySem.W.codeIn K cd1 "is_within" = true)
    (k1 : PySem.W.keepIn K (.ref a1) = true)
    (n2 : PySem.W.nsIn K mainGlobals "is_sized" = some (some (.ref a2)))
    (l2 : K.lookup a2 = some ⟨oc2, od2, .func (PySem.W.fnOf "is_sized" "is_sized" (defArgs (top 3)) (defBody (top 3)) (defScope (top 3)) .none kV2 dc2 pm2 an2 cd2 ct2), sl2⟩)
    (c2 : PySem.W.codeIn K cd2 "is_sized" = true)
    (k2 : PySem.W.keepIn K (.ref a2) = true)
    (n3 : PySem.W.nsIn K mainGlobals "common" = some (some (.ref a3)))
    (l3 : K.lookup a3 = some ⟨oc3, od3, .func (PySem.W.fnOf "common" "common" (defArgs (top 10)) (defBody (top 10)) (defScope (top 10)) .none kV3 dc3 pm3 an3 cd3 ct3), sl3⟩)
    (c3 : PySem.W.codeIn K cd3 "common" = true)
    (k3 : PySem.W.keepIn K (.ref a3) = true)
    (n4 : PySem.W.nsIn K mainGlobals "share" = some (some (.ref a4)))
    (l4 : K.lookup a4 = some ⟨oc4, od4, .func (PySem.W.fnOf "share" "share" (defArgs (top 11)) (defBody (top 11)) (defScope (top 11)) .none kV4 dc4 pm4 an4 cd4 ct4), sl4⟩)
    (c4 : PySem.W.codeIn K cd4 "share" = true)
    (k4 : PySem.W.keepIn K (.ref a4) = true)
    (n5 : PySem.W.nsIn K mainGlobals "is_less" = some (some (.ref a5)))
    (l5 : K.lookup a5 = some ⟨oc5, od5, .func (PySem.W.fnOf "is_less" "is_less" (defArgs (top 12)) (defBody (top 12)) (defScope (top 12)) .none kV5 dc5 pm5 an5 cd5 ct5), sl5⟩)
    (c5 : PySem.W.codeIn K cd5 "is_less" = true)
    (k5 : PySem.W.keepIn K (.ref a5) = true)
    (n6 : PySem.W.nsIn K mainGlobals "is_pile" = some (some (.ref a6)))
    (l6 : K.lookup a6 = some ⟨oc6, od6, .func (PySem.W.fnOf "is_pile" "is_pile" (defArgs (top 19)) (defBody (top 19)) (defScope (top 19)) .none kV6 dc6 pm6 an6 cd6 ct6), sl6⟩)
    (c6 : PySem.W.codeIn K cd6 "is_pile" = true)
    (k6 : PySem.W.keepIn K (.ref a6) = true)
    (n7 : PySem.W.nsIn K mainGlobals "check_pile" = some (some (.ref a7)))
    (l7 : K.lookup a7 = some ⟨oc7, od7, .func (PySem.W.fnOf "check_pile" "check_pile" (defArgs (top 20)) (defBody (top 20)) (defScope (top 20)) .none kV7 dc7 pm7 an7 cd7 ct7), sl7⟩)
    (c7 : PySem.W.codeIn K cd7 "check_pile" = true)
    (k7 : PySem.W.keepIn K (.ref a7) = true)
    (n8 : PySem.W.nsIn K mainGlobals "raw_middle" = some (some (.ref a8)))
    (l8 : K.lookup a8 = some ⟨oc8, od8, .func (PySem.W.fnOf "raw_middle" "raw_middle" (defArgs (top 21)) (defBody (top 21)) (defScope (top 21)) .none kV8 dc8 pm8 an8 cd8 ct8), sl8⟩)
    (c8 : PySem.W.codeIn K cd8 "raw_middle" = true)
    (k8 : PySem.W.keepIn K (.ref a8) = true)
    (n9 : PySem.W.nsIn K mainGlobals "middle_of" = some (some (.ref a9)))
    (l9 : K.lookup a9 = some ⟨oc9, od9, .func (PySem.W.fnOf "middle_of" "middle_of" (defArgs (top 22)) (defBody (top 22)) (defScope (top 22)) .none kV9 dc9 pm9 an9 cd9 ct9), sl9⟩)
    (c9 : PySem.W.codeIn K cd9 "middle_of" = true)
    (k9 : PySem.W.keepIn K (.ref a9) = true)
    (n10 : PySem.W.nsIn K mainGlobals "tips_at" = some (some (.ref a10)))
    (l10 : K.lookup a10 = some ⟨oc10, od10, .func (PySem.W.fnOf "tips_at" "tips_at" (defArgs (top 23)) (defBody (top 23)) (defScope (top 23)) .none kV10 dc10 pm10 an10 cd10 ct10), sl10⟩)
    (c10 : PySem.W.codeIn K cd10 "tips_at" = true)
    (k10 : PySem.W.keepIn K (.ref a10) = true)
    (n11 : PySem.W.nsIn K mainGlobals "told" = some (some (.ref a11)))
    (l11 : K.lookup a11 = some ⟨oc11, od11, .func (PySem.W.fnOf "told" "told" (defArgs (top 24)) (defBody (top 24)) (defScope (top 24)) .none kV11 dc11 pm11 an11 cd11 ct11), sl11⟩)
    (c11 : PySem.W.codeIn K cd11 "told" = true)
    (k11 : PySem.W.keepIn K (.ref a11) = true)
    (n12 : PySem.W.nsIn K mainGlobals "stands" = some (some (.ref a12)))
    (l12 : K.lookup a12 = some ⟨oc12, od12, .func (PySem.W.fnOf "stands" "stands" (defArgs (top 25)) (defBody (top 25)) (defScope (top 25)) .none kV12 dc12 pm12 an12 cd12 ct12), sl12⟩)
    (c12 : PySem.W.codeIn K cd12 "stands" = true)
    (k12 : PySem.W.keepIn K (.ref a12) = true)
    (n13 : PySem.W.nsIn K mainGlobals "overhang" = some (some (.ref a13)))
    (l13 : K.lookup a13 = some ⟨oc13, od13, .func (PySem.W.fnOf "overhang" "overhang" (defArgs (top 26)) (defBody (top 26)) (defScope (top 26)) .none kV13 dc13 pm13 an13 cd13 ct13), sl13⟩)
    (c13 : PySem.W.codeIn K cd13 "overhang" = true)
    (k13 : PySem.W.keepIn K (.ref a13) = true)
    (n14 : PySem.W.nsIn K mainGlobals "_law_hand" = some (some (.ref a14)))
    (l14 : K.lookup a14 = some ⟨oc14, od14, .func (PySem.W.fnOf "_law_hand" "_law_hand" (defArgs (top 28)) (defBody (top 28)) (defScope (top 28)) .none kV14 dc14 pm14 an14 cd14 ct14), sl14⟩)
    (c14 : PySem.W.codeIn K cd14 "_law_hand" = true)
    (k14 : PySem.W.keepIn K (.ref a14) = true)
    (n15 : PySem.W.nsIn K mainGlobals "_law_draw" = some (some (.ref a15)))
    (l15 : K.lookup a15 = some ⟨oc15, od15, .func (PySem.W.fnOf "_law_draw" "_law_draw" (defArgs (top 29)) (defBody (top 29)) (defScope (top 29)) .none kV15 dc15 pm15 an15 cd15 ct15), sl15⟩)
    (c15 : PySem.W.codeIn K cd15 "_law_draw" = true)
    (k15 : PySem.W.keepIn K (.ref a15) = true)
    (n16 : PySem.W.nsIn K mainGlobals "_law_any" = some (some (.ref a16)))
    (l16 : K.lookup a16 = some ⟨oc16, od16, .func (PySem.W.fnOf "_law_any" "_law_any" (defArgs (top 30)) (defBody (top 30)) (defScope (top 30)) .none kV16 dc16 pm16 an16 cd16 ct16), sl16⟩)
    (c16 : PySem.W.codeIn K cd16 "_law_any" = true)
    (k16 : PySem.W.keepIn K (.ref a16) = true)
    (n17 : PySem.W.nsIn K mainGlobals "_law_low" = some (some (.ref a17)))
    (l17 : K.lookup a17 = some ⟨oc17, od17, .func (PySem.W.fnOf "_law_low" "_law_low" (defArgs (top 31)) (defBody (top 31)) (defScope (top 31)) .none kV17 dc17 pm17 an17 cd17 ct17), sl17⟩)
    (c17 : PySem.W.codeIn K cd17 "_law_low" = true)
    (k17 : PySem.W.keepIn K (.ref a17) = true)
    (n18 : PySem.W.nsIn K mainGlobals "_law_deep" = some (some (.ref a18)))
    (l18 : K.lookup a18 = some ⟨oc18, od18, .func (PySem.W.fnOf "_law_deep" "_law_deep" (defArgs (top 32)) (defBody (top 32)) (defScope (top 32)) .none kV18 dc18 pm18 an18 cd18 ct18), sl18⟩)
    (c18 : PySem.W.codeIn K cd18 "_law_deep" = true)
    (k18 : PySem.W.keepIn K (.ref a18) = true)
    (n19 : PySem.W.nsIn K mainGlobals "_law_pile" = some (some (.ref a19)))
    (l19 : K.lookup a19 = some ⟨oc19, od19, .func (PySem.W.fnOf "_law_pile" "_law_pile" (defArgs (top 33)) (defBody (top 33)) (defScope (top 33)) .none kV19 dc19 pm19 an19 cd19 ct19), sl19⟩)
    (c19 : PySem.W.codeIn K cd19 "_law_pile" = true)
    (k19 : PySem.W.keepIn K (.ref a19) = true)
    (n20 : PySem.W.nsIn K mainGlobals "_law_middles" = some (some (.ref a20)))
    (l20 : K.lookup a20 = some ⟨oc20, od20, .func (PySem.W.fnOf "_law_middles" "_law_middles" (defArgs (top 34)) (defBody (top 34)) (defScope (top 34)) .none kV20 dc20 pm20 an20 cd20 ct20), sl20⟩)
    (c20 : PySem.W.codeIn K cd20 "_law_middles" = true)
    (k20 : PySem.W.keepIn K (.ref a20) = true)
    (n21 : PySem.W.nsIn K mainGlobals "_law_tipping" = some (some (.ref a21)))
    (l21 : K.lookup a21 = some ⟨oc21, od21, .func (PySem.W.fnOf "_law_tipping" "_law_tipping" (defArgs (top 35)) (defBody (top 35)) (defScope (top 35)) .none kV21 dc21 pm21 an21 cd21 ct21), sl21⟩)
    (c21 : PySem.W.codeIn K cd21 "_law_tipping" = true)
    (k21 : PySem.W.keepIn K (.ref a21) = true)
    (n22 : PySem.W.nsIn K mainGlobals "_law_is_over" = some (some (.ref a22)))
    (l22 : K.lookup a22 = some ⟨oc22, od22, .func (PySem.W.fnOf "_law_is_over" "_law_is_over" (defArgs (top 36)) (defBody (top 36)) (defScope (top 36)) .none kV22 dc22 pm22 an22 cd22 ct22), sl22⟩)
    (c22 : PySem.W.codeIn K cd22 "_law_is_over" = true)
    (k22 : PySem.W.keepIn K (.ref a22) = true)
    (n23 : PySem.W.nsIn K mainGlobals "_law_standing" = some (some (.ref a23)))
    (l23 : K.lookup a23 = some ⟨oc23, od23, .func (PySem.W.fnOf "_law_standing" "_law_standing" (defArgs (top 37)) (defBody (top 37)) (defScope (top 37)) .none kV23 dc23 pm23 an23 cd23 ct23), sl23⟩)
    (c23 : PySem.W.codeIn K cd23 "_law_standing" = true)
    (k23 : PySem.W.keepIn K (.ref a23) = true)
    (n24 : PySem.W.nsIn K mainGlobals "_law_told_of" = some (some (.ref a24)))
    (l24 : K.lookup a24 = some ⟨oc24, od24, .func (PySem.W.fnOf "_law_told_of" "_law_told_of" (defArgs (top 38)) (defBody (top 38)) (defScope (top 38)) .none kV24 dc24 pm24 an24 cd24 ct24), sl24⟩)
    (c24 : PySem.W.codeIn K cd24 "_law_told_of" = true)
    (k24 : PySem.W.keepIn K (.ref a24) = true)
    (n25 : PySem.W.nsIn K mainGlobals "_law_no_pile" = some (some (.ref a25)))
    (l25 : K.lookup a25 = some ⟨oc25, od25, .func (PySem.W.fnOf "_law_no_pile" "_law_no_pile" (defArgs (top 39)) (defBody (top 39)) (defScope (top 39)) .none kV25 dc25 pm25 an25 cd25 ct25), sl25⟩)
    (c25 : PySem.W.codeIn K cd25 "_law_no_pile" = true)
    (k25 : PySem.W.keepIn K (.ref a25) = true)
    (n26 : PySem.W.nsIn K mainGlobals "_law_is_right" = some (some (.ref a26)))
    (l26 : K.lookup a26 = some ⟨oc26, od26, .func (PySem.W.fnOf "_law_is_right" "_law_is_right" (defArgs (top 41)) (defBody (top 41)) (defScope (top 41)) .none kV26 dc26 pm26 an26 cd26 ct26), sl26⟩)
    (c26 : PySem.W.codeIn K cd26 "_law_is_right" = true)
    (k26 : PySem.W.keepIn K (.ref a26) = true)
    (n27 : PySem.W.nsIn K mainGlobals "law" = some (some (.ref a27)))
    (l27 : K.lookup a27 = some ⟨oc27, od27, .func (PySem.W.fnOf "law" "law" (defArgs (top 42)) (defBody (top 42)) (defScope (top 42)) .none kV27 dc27 pm27 an27 (.ref cL27) ct27), sl27⟩)
    (c27 : PySem.W.codeIn K (.ref cL27) "law" = true)
    (k27 : PySem.W.keepIn K (.ref a27) = true)
    (lL27 : K.lookup cL27 = some ⟨eL27, dL27, .fields vL27, sL27⟩)
    (vP27 : vL27[11]? = some (.ref Pt27))
    (hL27 : PySem.W.codeHdIn K cL27 Pt27 = true)
    (nP27 : K.lookup Pt27 = none)
    (nw : PySem.W.nsIn K mainGlobals "_law_said" = some (some (.ref aw)))
    (lw : K.lookup aw = some ⟨ocw, odw, .func (PySem.W.fnOf "_law_said" "_law_said" (defArgs (top 40)) (defBody (top 40)) (defScope (top 40)) .none kVw dcw pmw anw cdw ctw), slw⟩)
    (cw : PySem.W.codeIn K cdw "_law_said" = true)
    (kw : PySem.W.keepIn K (.ref aw) = true)
    (nWeighError : PySem.W.nsIn K mainGlobals "WeighError" = some (some (.ref CWeighError)))
    (nNoNumber : PySem.W.nsIn K mainGlobals "NoNumber" = some (some (.ref CNoNumber)))
    (nNoPile : PySem.W.nsIn K mainGlobals "NoPile" = some (some (.ref CNoPile)))
    (kWeighError : PySem.W.keepIn K (.ref CWeighError) = true)
    (sWeighError : PySem.W.subIn K (.ref CWeighError) (.type "BaseException") = some true)
    (tWeighError : PySem.W.typeIn K (.ref CWeighError) = some (.type "type"))
    (qWeighError : PySem.W.excIn K CWeighError [.type "ValueError", .type "Exception", .type "BaseException", .type "object"] "ValueError.__new__" = true)
    (kNoNumber : PySem.W.keepIn K (.ref CNoNumber) = true)
    (sNoNumber : PySem.W.subIn K (.ref CNoNumber) (.type "BaseException") = some true)
    (tNoNumber : PySem.W.typeIn K (.ref CNoNumber) = some (.type "type"))
    (qNoNumber : PySem.W.excIn K CNoNumber [.type "ValueError", .type "Exception", .type "BaseException", .type "object"] "ValueError.__new__" = true)
    (kNoPile : PySem.W.keepIn K (.ref CNoPile) = true)
    (sNoPile : PySem.W.subIn K (.ref CNoPile) (.type "BaseException") = some true)
    (tNoPile : PySem.W.typeIn K (.ref CNoPile) = some (.type "type"))
    (qNoPile : PySem.W.excIn K CNoPile [.type "ValueError", .type "Exception", .type "BaseException", .type "object"] "ValueError.__new__" = true)
    (g3NoPile : PySem.W.hasDictIn K CNoPile = true)
    (g3WeighError : PySem.W.hasDictIn K CWeighError = true)
    (g3NoNumber : PySem.W.hasDictIn K CNoNumber = true)
    (bNoNumberWeighError : PySem.W.subIn K (.ref CNoNumber) (.ref CWeighError) = some true)
    (g1NoNumber : PySem.W.findIn K (.ref CNoNumber) "__getattribute__" = some (some (.builtin "BaseException.__getattribute__")))
    (g2NoNumber : PySem.W.findIn K (.ref CNoNumber) "__getattr__" = some none)
    (g4NoNumber : PySem.W.findIn K (.ref CNoNumber) "__class__" = some (some (.builtin "object.__class__")))
    (g5NoNumber : PySem.W.specialIn K (.builtin "object.__class__") "__get__" = some (some (.builtin "getset_descriptor.__get__")))
    (g6NoNumber : PySem.W.takesIn K (.builtin "object.__class__") = some true)
    (g7NoNumber : PySem.W.mroIn K CNoNumber (.type "object") = some true)
    (jNoNumberNoNumber : PySem.W.subIn K (.ref CNoNumber) (.ref CNoNumber) = some true)
    (jNoNumberNoPile : PySem.W.subIn K (.ref CNoNumber) (.ref CNoPile) = some false)
    (vNoNumberValueError : PySem.W.subIn K (.ref CNoNumber) (.type "ValueError") = some true)
    (bNoPileWeighError : PySem.W.subIn K (.ref CNoPile) (.ref CWeighError) = some true)
    (g1NoPile : PySem.W.findIn K (.ref CNoPile) "__getattribute__" = some (some (.builtin "BaseException.__getattribute__")))
    (g2NoPile : PySem.W.findIn K (.ref CNoPile) "__getattr__" = some none)
    (g4NoPile : PySem.W.findIn K (.ref CNoPile) "__class__" = some (some (.builtin "object.__class__")))
    (g5NoPile : PySem.W.specialIn K (.builtin "object.__class__") "__get__" = some (some (.builtin "getset_descriptor.__get__")))
    (g6NoPile : PySem.W.takesIn K (.builtin "object.__class__") = some true)
    (g7NoPile : PySem.W.mroIn K CNoPile (.type "object") = some true)
    (jNoPileNoNumber : PySem.W.subIn K (.ref CNoPile) (.ref CNoNumber) = some false)
    (jNoPileNoPile : PySem.W.subIn K (.ref CNoPile) (.ref CNoPile) = some true)
    (vNoPileValueError : PySem.W.subIn K (.ref CNoPile) (.type "ValueError") = some true)
    (nZERO : PySem.W.nsIn K mainGlobals "ZERO" = some (some (.ref tZERO)))
    (lZERO : K.lookup tZERO = some ⟨.type "tuple", none, .seq #[.int 0 uZERO0, .int 1 uZERO1] cZERO, xZERO⟩)
    (nMOST_BRICKS : PySem.W.nsIn K mainGlobals "MOST_BRICKS" = some (some (.int 8 tMOST_BRICKS)))
    (nMOST_LENGTH : PySem.W.nsIn K mainGlobals "MOST_LENGTH" = some (some (.int 20 tMOST_LENGTH)))
    (nMOST_PLACE : PySem.W.nsIn K mainGlobals "MOST_PLACE" = some (some (.int 200 tMOST_PLACE)))
    (nSTANDS : PySem.W.nsIn K mainGlobals "STANDS" = some (some (.str "stands" tSTANDS)))
    (nTIPS : PySem.W.nsIn K mainGlobals "TIPS" = some (some (.str "tips" tTIPS)))
    (m_isinstance : PySem.W.nsIn K mainGlobals "isinstance" = some none)
    (m_len : PySem.W.nsIn K mainGlobals "len" = some none)
    (m_abs : PySem.W.nsIn K mainGlobals "abs" = some none)
    (m_all : PySem.W.nsIn K mainGlobals "all" = some none)
    (m_max : PySem.W.nsIn K mainGlobals "max" = some none)
    (m_int : PySem.W.nsIn K mainGlobals "int" = some none)
    (m_bool : PySem.W.nsIn K mainGlobals "bool" = some none)
    (m_tuple : PySem.W.nsIn K mainGlobals "tuple" = some none)
    (m_range : PySem.W.nsIn K mainGlobals "range" = some none)
    (m_enumerate : PySem.W.nsIn K mainGlobals "enumerate" = some none)
    (m_zip : PySem.W.nsIn K mainGlobals "zip" = some none)
    (m_ValueError : PySem.W.nsIn K mainGlobals "ValueError" = some none) :
    LamX.LawAtS PySem.Challenge.rw_weighhouse_k78_whole_piles_that_stand_or w K (L2.CX prog_ w) 36 63 "script" mg fa h := by
  have e := hfa.symm.trans (PySem.W.mg_of X G n27)
  cases e
  have iNoNumberNoNumber := kit_ref g3NoNumber tNoNumber jNoNumberNoNumber (fun _ => rfl)
  have iNoNumberNoPile := kit_ref g3NoPile tNoPile jNoNumberNoPile (fun z => by rw [z] at jNoNumberNoPile; rw [jNoPileNoPile] at jNoNumberNoPile; cases jNoNumberNoPile)
  have iNoPileNoNumber := kit_ref g3NoNumber tNoNumber jNoPileNoNumber (fun z => by rw [z] at jNoPileNoNumber; rw [jNoNumberNoNumber] at jNoPileNoNumber; cases jNoPileNoNumber)
  have iNoPileNoPile := kit_ref g3NoPile tNoPile jNoPileNoPile (fun _ => rfl)
  let S : Sx := ⟨K, [(Pt27, ("law" : Str) ++ (".<locals>." : Str) ++ ("<lambda>" : Str))], fun k => [a0, a1, a2, a3, a4, a5, a6, a7, a8, a9, a10, a11, a12, a13, a14, a15, a16, a17, a18, a19, a20, a21, a22, a23, a24, a25, a26, fa].getD k 0, fun x => (([("WeighError", CWeighError), ("NoNumber", CNoNumber), ("NoPile", CNoPile)] : List (Str × Addr)).lookup x).getD 0⟩
  let AW : Str → Addr := fun x => (([("WeighError", CWeighError)] : List (Str × Addr)).lookup x).getD 0
  have word : WordG S mg wN (defScope (top 40)) word_w 1 0 glW mtW AW word0 := by
    refine ⟨word_ok, fun p hp => ?_, fun p hp => ?_, fun c x d hd => ?_⟩
    · have e : (none : Option (Str × Str)) = some p := hp
      cases e
    · have hq : p.1 ∈ word_w.cl.map (·.1) := List.mem_map_of_mem hp
      rw [word_cls] at hq
      revert hq
      generalize p.1 = y
      intro hq
      rcases List.mem_cons.mp hq with e | hq
      · rw [e]; exact ⟨PySem.W.mg_of X G nWeighError, rfl, by decide +kernel⟩
      exact absurd hq (List.not_mem_nil)
    · cases x with
      | some _ => cases hd
      | none =>
        refine ⟨rfl, ?_⟩
        refine All2.at (l := excT) (Φ := fun c d => ExcC S.K (S.ca c) ∧ (∀ p ∈ word_w.cl, PySem.W.exmOne S.K (.ref (S.ca c)) (.ref (AW p.1)) = some (mtW c p.1)) ∧ (∃ su, pickC (mtW c) word_w.cl = some su ∧ runExc (wCfg wN (defScope (top 40)) (glW c)) (wCfg wN (defScope (top 40)) fun _ => none) (defScope (top 40)) su word_w.post 1 wN.length = some d) ∧
          ∀ y g, glW c y = some g → (g = .bi "isinstance" ∧ y = "isinstance" ∧ mg y = none) ∨ ∃ b, g = .flag b ∧ ((∃ Cc, mg y = some (.ref Cc) ∧ PySem.W.kitOne S.K (.ref (S.ca c)) (.ref Cc) = some b) ∨ ∃ t, mg y = none ∧ bootBuiltins y = some (.type t) ∧ PySem.W.kitOne S.K (.ref (S.ca c)) (.type t) = some b)) (show _ ∧ _ ∧ True from ⟨?_, ?_, trivial⟩) hd
        · refine ⟨⟨g1NoNumber, g2NoNumber, sNoNumber, g3NoNumber, g4NoNumber, g5NoNumber, g6NoNumber, g7NoNumber⟩, fun p hp => ?_, word_NoNumber, fun y g hy => ?_⟩
          · have hq : p.1 ∈ word_w.cl.map (·.1) := List.mem_map_of_mem hp
            rw [word_cls] at hq
            revert hq
            generalize p.1 = y
            intro hq
            rcases List.mem_cons.mp hq with e | hq
            · rw [e]; exact PySem.W.exm_ref sWeighError g3WeighError tWeighError bNoNumberWeighError
            exact absurd hq (List.not_mem_nil)
          · refine All2.at (l := [("isinstance", Gb.bi "isinstance"), ("NoNumber", Gb.flag true), ("NoPile", Gb.flag false), ("ValueError", Gb.flag true)]) (Φ := fun y g => (g = Gb.bi "isinstance" ∧ y = "isinstance" ∧ mg y = none) ∨ ∃ b, g = Gb.flag b ∧ ((∃ Cc, mg y = some (.ref Cc) ∧ PySem.W.kitOne S.K (.ref (S.ca "NoNumber")) (.ref Cc) = some b) ∨ ∃ t, mg y = none ∧ bootBuiltins y = some (.type t) ∧ PySem.W.kitOne S.K (.ref (S.ca "NoNumber")) (.type t) = some b)) ?_ hy
            exact ⟨.inl ⟨rfl, rfl, PySem.W.mg_none_of X G m_isinstance⟩, .inr ⟨_, rfl, .inl ⟨_, PySem.W.mg_of X G nNoNumber, iNoNumberNoNumber⟩⟩, .inr ⟨_, rfl, .inl ⟨_, PySem.W.mg_of X G nNoPile, iNoNumberNoPile⟩⟩, .inr ⟨_, rfl, .inr ⟨_, PySem.W.mg_none_of X G m_ValueError, by decide +kernel, kit_bt (by decide +kernel) vNoNumberValueError⟩⟩, trivial⟩
        · refine ⟨⟨g1NoPile, g2NoPile, sNoPile, g3NoPile, g4NoPile, g5NoPile, g6NoPile, g7NoPile⟩, fun p hp => ?_, word_NoPile, fun y g hy => ?_⟩
          · have hq : p.1 ∈ word_w.cl.map (·.1) := List.mem_map_of_mem hp
            rw [word_cls] at hq
            revert hq
            generalize p.1 = y
            intro hq
            rcases List.mem_cons.mp hq with e | hq
            · rw [e]; exact PySem.W.exm_ref sWeighError g3WeighError tWeighError bNoPileWeighError
            exact absurd hq (List.not_mem_nil)
          · refine All2.at (l := [("isinstance", Gb.bi "isinstance"), ("NoNumber", Gb.flag false), ("NoPile", Gb.flag true), ("ValueError", Gb.flag true)]) (Φ := fun y g => (g = Gb.bi "isinstance" ∧ y = "isinstance" ∧ mg y = none) ∨ ∃ b, g = Gb.flag b ∧ ((∃ Cc, mg y = some (.ref Cc) ∧ PySem.W.kitOne S.K (.ref (S.ca "NoPile")) (.ref Cc) = some b) ∨ ∃ t, mg y = none ∧ bootBuiltins y = some (.type t) ∧ PySem.W.kitOne S.K (.ref (S.ca "NoPile")) (.type t) = some b)) ?_ hy
            exact ⟨.inl ⟨rfl, rfl, PySem.W.mg_none_of X G m_isinstance⟩, .inr ⟨_, rfl, .inl ⟨_, PySem.W.mg_of X G nNoNumber, iNoPileNoNumber⟩⟩, .inr ⟨_, rfl, .inl ⟨_, PySem.W.mg_of X G nNoPile, iNoPileNoPile⟩⟩, .inr ⟨_, rfl, .inr ⟨_, PySem.W.mg_none_of X G m_ValueError, by decide +kernel, kit_bt (by decide +kernel) vNoPileValueError⟩⟩, trivial⟩
  have hM : ∀ base : Heap, (∀ p ∈ [(cL27, Pt27)], LamX.TabB base mg p.1 p.2) → ∀ x g, P.glob x = some g → GAt S P prog_ w base mg x g := fun base TB x g hg => by
    refine All2.at (Φ := GAt S P prog_ w base mg) (l := globs) ?_ hg
    exact ⟨⟨d_is_integer, rfl, ⟨PySem.W.mg_of X G n0, k0, _, _, _, _, _, _, _, _, _, _, _, _, _, _, _, _, l0, c0, sc_is_integer, rfl, rfl, rfl, bi_is_integer, fun z => Bool.noConfusion z⟩⟩,
      ⟨d_is_within, rfl, ⟨PySem.W.mg_of X G n1, k1, _, _, _, _, _, _, _, _, _, _, _, _, _, _, _, _, l1, c1, sc_is_within, rfl, rfl, rfl, bi_is_within, fun z => Bool.noConfusion z⟩⟩,
      ⟨d_is_sized, rfl, ⟨PySem.W.mg_of X G n2, k2, _, _, _, _, _, _, _, _, _, _, _, _, _, _, _, _, l2, c2, sc_is_sized, rfl, rfl, rfl, bi_is_sized, fun z => Bool.noConfusion z⟩⟩,
      ⟨d_common, rfl, ⟨PySem.W.mg_of X G n3, k3, _, _, _, _, _, _, _, _, _, _, _, _, _, _, _, _, l3, c3, sc_common, rfl, rfl, rfl, bi_common, fun z => Bool.noConfusion z⟩⟩,
      ⟨d_share, rfl, ⟨PySem.W.mg_of X G n4, k4, _, _, _, _, _, _, _, _, _, _, _, _, _, _, _, _, l4, c4, sc_share, rfl, rfl, rfl, bi_share, fun z => Bool.noConfusion z⟩⟩,
      ⟨d_is_less, rfl, ⟨PySem.W.mg_of X G n5, k5, _, _, _, _, _, _, _, _, _, _, _, _, _, _, _, _, l5, c5, sc_is_less, rfl, rfl, rfl, bi_is_less, fun z => Bool.noConfusion z⟩⟩,
      ⟨d_is_pile, rfl, ⟨PySem.W.mg_of X G n6, k6, _, _, _, _, _, _, _, _, _, _, _, _, _, _, _, _, l6, c6, sc_is_pile, rfl, rfl, rfl, bi_is_pile, fun z => Bool.noConfusion z⟩⟩,
      ⟨d_check_pile, rfl, ⟨PySem.W.mg_of X G n7, k7, _, _, _, _, _, _, _, _, _, _, _, _, _, _, _, _, l7, c7, sc_check_pile, rfl, rfl, rfl, bi_check_pile, fun z => Bool.noConfusion z⟩⟩,
      ⟨d_raw_middle, rfl, ⟨PySem.W.mg_of X G n8, k8, _, _, _, _, _, _, _, _, _, _, _, _, _, _, _, _, l8, c8, sc_raw_middle, rfl, rfl, rfl, bi_raw_middle, fun z => Bool.noConfusion z⟩⟩,
      ⟨d_middle_of, rfl, ⟨PySem.W.mg_of X G n9, k9, _, _, _, _, _, _, _, _, _, _, _, _, _, _, _, _, l9, c9, sc_middle_of, rfl, rfl, rfl, bi_middle_of, fun z => Bool.noConfusion z⟩⟩,
      ⟨d_tips_at, rfl, ⟨PySem.W.mg_of X G n10, k10, _, _, _, _, _, _, _, _, _, _, _, _, _, _, _, _, l10, c10, sc_tips_at, rfl, rfl, rfl, bi_tips_at, fun z => Bool.noConfusion z⟩⟩,
      ⟨d_told, rfl, ⟨PySem.W.mg_of X G n11, k11, _, _, _, _, _, _, _, _, _, _, _, _, _, _, _, _, l11, c11, sc_told, rfl, rfl, rfl, bi_told, fun z => Bool.noConfusion z⟩⟩,
      ⟨d_stands, rfl, ⟨PySem.W.mg_of X G n12, k12, _, _, _, _, _, _, _, _, _, _, _, _, _, _, _, _, l12, c12, sc_stands, rfl, rfl, rfl, bi_stands, fun z => Bool.noConfusion z⟩⟩,
      ⟨d_overhang, rfl, ⟨PySem.W.mg_of X G n13, k13, _, _, _, _, _, _, _, _, _, _, _, _, _, _, _, _, l13, c13, sc_overhang, rfl, rfl, rfl, bi_overhang, fun z => Bool.noConfusion z⟩⟩,
      ⟨d__law_hand, rfl, ⟨PySem.W.mg_of X G n14, k14, _, _, _, _, _, _, _, _, _, _, _, _, _, _, _, _, l14, c14, sc__law_hand, rfl, rfl, rfl, bi__law_hand, fun z => Bool.noConfusion z⟩⟩,
      ⟨d__law_draw, rfl, ⟨PySem.W.mg_of X G n15, k15, _, _, _, _, _, _, _, _, _, _, _, _, _, _, _, _, l15, c15, sc__law_draw, rfl, rfl, rfl, bi__law_draw, fun z => Bool.noConfusion z⟩⟩,
      ⟨d__law_any, rfl, ⟨PySem.W.mg_of X G n16, k16, _, _, _, _, _, _, _, _, _, _, _, _, _, _, _, _, l16, c16, sc__law_any, rfl, rfl, rfl, bi__law_any, fun z => Bool.noConfusion z⟩⟩,
      ⟨d__law_low, rfl, ⟨PySem.W.mg_of X G n17, k17, _, _, _, _, _, _, _, _, _, _, _, _, _, _, _, _, l17, c17, sc__law_low, rfl, rfl, rfl, bi__law_low, fun z => Bool.noConfusion z⟩⟩,
      ⟨d__law_deep, rfl, ⟨PySem.W.mg_of X G n18, k18, _, _, _, _, _, _, _, _, _, _, _, _, _, _, _, _, l18, c18, sc__law_deep, rfl, rfl, rfl, bi__law_deep, fun z => Bool.noConfusion z⟩⟩,
      ⟨d__law_pile, rfl, ⟨PySem.W.mg_of X G n19, k19, _, _, _, _, _, _, _, _, _, _, _, _, _, _, _, _, l19, c19, sc__law_pile, rfl, rfl, rfl, bi__law_pile, fun z => Bool.noConfusion z⟩⟩,
      ⟨d__law_middles, rfl, ⟨PySem.W.mg_of X G n20, k20, _, _, _, _, _, _, _, _, _, _, _, _, _, _, _, _, l20, c20, sc__law_middles, rfl, rfl, rfl, bi__law_middles, fun z => Bool.noConfusion z⟩⟩,
      ⟨d__law_tipping, rfl, ⟨PySem.W.mg_of X G n21, k21, _, _, _, _, _, _, _, _, _, _, _, _, _, _, _, _, l21, c21, sc__law_tipping, rfl, rfl, rfl, bi__law_tipping, fun z => Bool.noConfusion z⟩⟩,
      ⟨d__law_is_over, rfl, ⟨PySem.W.mg_of X G n22, k22, _, _, _, _, _, _, _, _, _, _, _, _, _, _, _, _, l22, c22, sc__law_is_over, rfl, rfl, rfl, bi__law_is_over, fun z => Bool.noConfusion z⟩⟩,
      ⟨d__law_standing, rfl, ⟨PySem.W.mg_of X G n23, k23, _, _, _, _, _, _, _, _, _, _, _, _, _, _, _, _, l23, c23, sc__law_standing, rfl, rfl, rfl, bi__law_standing, fun z => Bool.noConfusion z⟩⟩,
      ⟨d__law_told_of, rfl, ⟨PySem.W.mg_of X G n24, k24, _, _, _, _, _, _, _, _, _, _, _, _, _, _, _, _, l24, c24, sc__law_told_of, rfl, rfl, rfl, bi__law_told_of, fun z => Bool.noConfusion z⟩⟩,
      ⟨d__law_no_pile, rfl, ⟨PySem.W.mg_of X G n25, k25, _, _, _, _, _, _, _, _, _, _, _, _, _, _, _, _, l25, c25, sc__law_no_pile, rfl, rfl, rfl, bi__law_no_pile, fun z => Bool.noConfusion z⟩⟩,
      ⟨d__law_is_right, rfl, ⟨PySem.W.mg_of X G n26, k26, _, _, _, _, _, _, _, _, _, _, _, _, _, _, _, _, l26, c26, sc__law_is_right, rfl, rfl, rfl, bi__law_is_right, fun z => Bool.noConfusion z⟩⟩,
      ⟨d_law, rfl, ⟨PySem.W.mg_of X G n27, k27, _, _, _, _, _, _, _, _, _, _, _, _, _, _, _, _, l27, c27, sc_law, rfl, rfl, rfl, bi_law, fun _ => ⟨cL27, Pt27, rfl, TB (cL27, Pt27) List.mem_cons_self, List.mem_cons_self, fun p hp _ => by rw [List.mem_singleton.mp hp]⟩⟩⟩,
      ⟨aw, _, _, _, _, _, _, _, _, _, _, _, _, _, wN, _, PySem.W.mg_of X G nw, kw, lw, cw, bi_word, sc_word, rfl, .inl rfl, rfl, rfl, fun X1 q1 _ _ e3 e4 _ hr => word_gen (w := word_w) (ie := 1) (iw := 0) (gl := glW) (mt := mtW) (A := AW) e3 hr word_e sc_word.nd rfl rfl (by rw [e4]; exact word)⟩,
      ⟨PySem.W.mg_of X G nWeighError, kWeighError, ⟨_, _, _, _, PySem.F.excBase_ValueError, qWeighError⟩, sWeighError, tWeighError⟩,
      ⟨PySem.W.mg_of X G nNoNumber, kNoNumber, ⟨_, _, _, _, PySem.F.excBase_ValueError, qNoNumber⟩, sNoNumber, tNoNumber⟩,
      ⟨PySem.W.mg_of X G nNoPile, kNoPile, ⟨_, _, _, _, PySem.F.excBase_ValueError, qNoPile⟩, sNoPile, tNoPile⟩,
      ⟨_, .ref tZERO, PySem.W.mg_of X G nZERO, rfl, fun _ _ => ⟨tZERO, [.int 0, .int 1], rfl, .inr ⟨_, _, _, lZERO, rfl, rfl, rfl, by rw [sizeLine_eq]; show 2 ≤ 16777216; decide, .cons ⟨_, rfl⟩ (.cons ⟨_, rfl⟩ (.nil))⟩, ⟨.int 0, _, rfl, rfl, ⟨.int 1, _, rfl, rfl, rfl⟩⟩⟩⟩,
      ⟨_, .int 8, PySem.W.mg_of X G nMOST_BRICKS, ⟨_, rfl⟩, fun _ _ => rfl⟩,
      ⟨_, .int 20, PySem.W.mg_of X G nMOST_LENGTH, ⟨_, rfl⟩, fun _ _ => rfl⟩,
      ⟨_, .int 200, PySem.W.mg_of X G nMOST_PLACE, ⟨_, rfl⟩, fun _ _ => rfl⟩,
      ⟨_, .str "stands", PySem.W.mg_of X G nSTANDS, ⟨_, rfl⟩, fun _ _ => rfl⟩,
      ⟨_, .str "tips", PySem.W.mg_of X G nTIPS, ⟨_, rfl⟩, fun _ _ => rfl⟩,
      ⟨PySem.W.mg_none_of X G m_isinstance, rfl, by decide +kernel⟩,
      ⟨PySem.W.mg_none_of X G m_len, rfl, by decide +kernel⟩,
      ⟨PySem.W.mg_none_of X G m_abs, rfl, by decide +kernel⟩,
      ⟨PySem.W.mg_none_of X G m_all, rfl, by decide +kernel⟩,
      ⟨PySem.W.mg_none_of X G m_max, rfl, by decide +kernel⟩,
      ⟨PySem.W.mg_none_of X G m_int, rfl, by decide +kernel⟩,
      ⟨PySem.W.mg_none_of X G m_bool, rfl, by decide +kernel⟩,
      ⟨PySem.W.mg_none_of X G m_tuple, rfl, by decide +kernel⟩,
      ⟨PySem.W.mg_none_of X G m_range, rfl, by decide +kernel⟩,
      ⟨PySem.W.mg_none_of X G m_enumerate, rfl, by decide +kernel⟩,
      ⟨PySem.W.mg_none_of X G m_zip, rfl, by decide +kernel⟩, trivial⟩
  refine ⟨PySem.W.fnOf "law" "law" (defArgs (top 42)) (defBody (top 42)) (defScope (top 42)) .none kV27 dc27 pm27 an27 (.ref cL27) ct27, [(cL27, Pt27)], spOf S (lev P 12 kLaw), fun p hp => ?_, fun p hp => ?_, fun p hp => ?_, fun s u => .of_eq rfl, fun H a ns hl hb hT hS => sp_script (fun p hp => ?_) hS (plain ns hl hb), fun base _ _ TB => fn_step (k := kLaw) (d := d_law) (hM base TB) (lev_ok (hM base TB) 11) rfl (show S.K.lookup (S.fa kLaw) = some ⟨oc27, od27, .func (PySem.W.fnOf "law" "law" (defArgs (top 42)) d_law.body d_law.sc .none kV27 dc27 pm27 an27 (.ref cL27) ct27), sl27⟩ from l27) c27 sc_law rfl (fun _ => ⟨cL27, Pt27, rfl, TB (cL27, Pt27) List.mem_cons_self, List.mem_cons_self, fun p hp _ => by rw [List.mem_singleton.mp hp]⟩)⟩
  · rw [List.mem_singleton.mp hp]; exact own _ _ _ _ _ _ _ _ l27 rfl rfl lL27 vP27
  · rw [List.mem_singleton.mp hp]; exact nP27
  · rw [List.mem_singleton.mp hp]; exact PySem.W.codeHd_of_K X hL27
  · rw [List.mem_singleton.mp hp]; exact LamX.TabS.nil (hT (cL27, Pt27) List.mem_cons_self)
end K78
end

section
set_option Elab.async false
set_option linter.all false
set_option maxRecDepth 100000
set_option maxHeartbeats 0
open PySem PySem.W PyProof.Rows
open_top head78 for PySem.Challenge.rw_weighhouse_k78_whole_piles_that_stand_or
namespace K78
theorem joined (plain : ∀ ns : List Int, ns.length ≤ 63 → (∀ z ∈ ns, Builtin.Int.intBits z ≤ 1048576) → ∃ ss, Pyd.lev P 12 kLaw [.val (.scr ns)] = .ok (.val (.bl true)) ss) : PySem.Challenge.rw_weighhouse_k78_whole_piles_that_stand_or.Holds := by
  refine head78 ?_
  refine LamX.walk_ofOwn (l := PySem.Challenge.rw_weighhouse_k78_whole_piles_that_stand_or) (n := 63) (k := 36) (CX := fun w => L2.CX prog_ w) (x := "script") (by decide +kernel) (by rw [sizeLine_eq]; decide) rfl ⟨rfl, by decide, by decide⟩ (by decide +kernel) (fun w h Y => PySem.W.km_in_of Y) ?F (fun _ _ _ _ _ z => Pyd.no_exc z)
  case F =>
    intro w mg fa h Y KX G hmg own
    refine' law_at plain KX G hmg own ?n0 ?l0 ?c0 ?k0 ?n1 ?l1 ?c1 ?k1 ?n2 ?l2 ?c2 ?k2 ?n3 ?l3 ?c3 ?k3 ?n4 ?l4 ?c4 ?k4 ?n5 ?l5 ?c5 ?k5 ?n6 ?l6 ?c6 ?k6 ?n7 ?l7 ?c7 ?k7 ?n8 ?l8 ?c8 ?k8 ?n9 ?l9 ?c9 ?k9 ?n10 ?l10 ?c10 ?k10 ?n11 ?l11 ?c11 ?k11 ?n12 ?l12 ?c12 ?k12 ?n13 ?l13 ?c13 ?k13 ?n14 ?l14 ?c14 ?k14 ?n15 ?l15 ?c15 ?k15 ?n16 ?l16 ?c16 ?k16 ?n17 ?l17 ?c17 ?k17 ?n18 ?l18 ?c18 ?k18 ?n19 ?l19 ?c19 ?k19 ?n20 ?l20 ?c20 ?k20 ?n21 ?l21 ?c21 ?k21 ?n22 ?l22 ?c22 ?k22 ?n23 ?l23 ?c23 ?k23 ?n24 ?l24 ?c24 ?k24 ?n25 ?l25 ?c25 ?k25 ?n26 ?l26 ?c26 ?k26 ?n27 ?l27 ?c27 ?k27 ?lL27 ?vP27 ?hL27 ?nP27 ?nw ?lw ?cw ?kw ?nWeighError ?nNoNumber ?nNoPile ?kWeighError ?sWeighError ?tWeighError ?qWeighError ?kNoNumber ?sNoNumber ?tNoNumber ?qNoNumber ?kNoPile ?sNoPile ?tNoPile ?qNoPile ?g3NoPile ?g3WeighError ?g3NoNumber ?bNoNumberWeighError ?g1NoNumber ?g2NoNumber ?g4NoNumber ?g5NoNumber ?g6NoNumber ?g7NoNumber ?jNoNumberNoNumber ?jNoNumberNoPile ?vNoNumberValueError ?bNoPileWeighError ?g1NoPile ?g2NoPile ?g4NoPile ?g5NoPile ?g6NoPile ?g7NoPile ?jNoPileNoNumber ?jNoPileNoPile ?vNoPileValueError ?nZERO ?lZERO ?nMOST_BRICKS ?nMOST_LENGTH ?nMOST_PLACE ?nSTANDS ?nTIPS ?m_isinstance ?m_len ?m_abs ?m_all ?m_max ?m_int ?m_bool ?m_tuple ?m_range ?m_enumerate ?m_zip ?m_ValueError
    (case n0 => k_is)
    (case l0 => k_is)
    (case c0 => k_is)
    (case k0 => k_is)
    (case n1 => k_is)
    (case l1 => k_is)
    (case c1 => k_is)
    (case k1 => k_is)
    (case n2 => k_is)
    (case l2 => k_is)
    (case c2 => k_is)
    (case k2 => k_is)
    (case n3 => k_is)
    (case l3 => k_is)
    (case c3 => k_is)
    (case k3 => k_is)
    (case n4 => k_is)
    (case l4 => k_is)
    (case c4 => k_is)
    (case k4 => k_is)
    (case n5 => k_is)
    (case l5 => k_is)
    (case c5 => k_is)
    (case k5 => k_is)
    (case n6 => k_is)
    (case l6 => k_is)
    (case c6 => k_is)
    (case k6 => k_is)
    (case n7 => k_is)
    (case l7 => k_is)
    (case c7 => k_is)
    (case k7 => k_is)
    (case n8 => k_is)
    (case l8 => k_is)
    (case c8 => k_is)
    (case k8 => k_is)
    (case n9 => k_is)
    (case l9 => k_is)
    (case c9 => k_is)
    (case k9 => k_is)
    (case n10 => k_is)
    (case l10 => k_is)
    (case c10 => k_is)
    (case k10 => k_is)
    (case n11 => k_is)
    (case l11 => k_is)
    (case c11 => k_is)
    (case k11 => k_is)
    (case n12 => k_is)
    (case l12 => k_is)
    (case c12 => k_is)
    (case k12 => k_is)
    (case n13 => k_is)
    (case l13 => k_is)
    (case c13 => k_is)
    (case k13 => k_is)
    (case n14 => k_is)
    (case l14 => k_is)
    (case c14 => k_is)
    (case k14 => k_is)
    (case n15 => k_is)
    (case l15 => k_is)
    (case c15 => k_is)
    (case k15 => k_is)
    (case n16 => k_is)
    (case l16 => k_is)
    (case c16 => k_is)
    (case k16 => k_is)
    (case n17 => k_is)
    (case l17 => k_is)
    (case c17 => k_is)
    (case k17 => k_is)
    (case n18 => k_is)
    (case l18 => k_is)
    (case c18 => k_is)
    (case k18 => k_is)
    (case n19 => k_is)
    (case l19 => k_is)
    (case c19 => k_is)
    (case k19 => k_is)
    (case n20 => k_is)
    (case l20 => k_is)
    (case c20 => k_is)
    (case k20 => k_is)
    (case n21 => k_is)
    (case l21 => k_is)
    (case c21 => k_is)
    (case k21 => k_is)
    (case n22 => k_is)
    (case l22 => k_is)
    (case c22 => k_is)
    (case k22 => k_is)
    (case n23 => k_is)
    (case l23 => k_is)
    (case c23 => k_is)
    (case k23 => k_is)
    (case n24 => k_is)
    (case l24 => k_is)
    (case c24 => k_is)
    (case k24 => k_is)
    (case n25 => k_is)
    (case l25 => k_is)
    (case c25 => k_is)
    (case k25 => k_is)
    (case n26 => k_is)
    (case l26 => k_is)
    (case c26 => k_is)
    (case k26 => k_is)
    (case n27 => k_is)
    (case l27 => k_is)
    (case c27 => k_is)
    (case k27 => k_is)
    (case lL27 => k_is)
    (case vP27 => rfl)
    (case hL27 => kernel_rfl)
    (case nP27 => kernel_rfl)
    (case nw => k_is)
    (case lw => k_is)
    (case cw => k_is)
    (case kw => k_is)
    (case nWeighError => k_is)
    (case nNoNumber => k_is)
    (case nNoPile => k_is)
    (case kWeighError => k_is)
    (case sWeighError => k_is)
    (case tWeighError => k_is)
    (case qWeighError => first | k_exc | k_is | kx_is | rfl)
    (case kNoNumber => k_is)
    (case sNoNumber => k_is)
    (case tNoNumber => k_is)
    (case qNoNumber => first | k_exc | k_is | kx_is | rfl)
    (case kNoPile => k_is)
    (case sNoPile => k_is)
    (case tNoPile => k_is)
    (case qNoPile => first | k_exc | k_is | kx_is | rfl)
    (case g3NoPile => k_is)
    (case g3WeighError => k_is)
    (case g3NoNumber => k_is)
    (case bNoNumberWeighError => k_is)
    (case g1NoNumber => k_is)
    (case g2NoNumber => k_is)
    (case g4NoNumber => k_is)
    (case g5NoNumber => k_is)
    (case g6NoNumber => k_is)
    (case g7NoNumber => k_is)
    (case jNoNumberNoNumber => k_is)
    (case jNoNumberNoPile => k_is)
    (case vNoNumberValueError => k_is)
    (case bNoPileWeighError => k_is)
    (case g1NoPile => k_is)
    (case g2NoPile => k_is)
    (case g4NoPile => k_is)
    (case g5NoPile => k_is)
    (case g6NoPile => k_is)
    (case g7NoPile => k_is)
    (case jNoPileNoNumber => k_is)
    (case jNoPileNoPile => k_is)
    (case vNoPileValueError => k_is)
    (case nZERO => k_is)
    (case lZERO => k_is)
    (case nMOST_BRICKS => k_is)
    (case nMOST_LENGTH => k_is)
    (case nMOST_PLACE => k_is)
    (case nSTANDS => k_is)
    (case nTIPS => k_is)
    (case m_isinstance => k_is)
    (case m_len => k_is)
    (case m_abs => k_is)
    (case m_all => k_is)
    (case m_max => k_is)
    (case m_int => k_is)
    (case m_bool => k_is)
    (case m_tuple => k_is)
    (case m_range => k_is)
    (case m_enumerate => k_is)
    (case m_zip => k_is)
    (case m_ValueError => k_is)
end K78
end

theorem PySem.Challenge.cw_weighhouse_k78_whole_piles_that_stand_or_holds : PySem.Challenge.rw_weighhouse_k78_whole_piles_that_stand_or.Holds := by
  exact K78.joined fun ns hn _ => K78.law_ok 3 ns hn
